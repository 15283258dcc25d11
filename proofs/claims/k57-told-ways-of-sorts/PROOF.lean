import PyProof.Rows.All
import Wide.All
import OpenK.AllK
import Wide.FinOn
import HandS.ForMost
import HandS.Wide
import HandS.Gcd
import HandS.Star
import HandS.TupMul
import HandS.TupAny
import HandS.SortInts
import HandS.IsInst
import HandS.Flow
import HandS.Style
import HandS.Defaults
import HandS.HeadEnd
import HandS.HeadHook2
import PyProof.ReprRoads
import KE.SortData
import KE.DataMinMax
import HandS.Conv
import HandS.Strs
import HandS.Dict
import HandS.Iter
import HandS.Deep
import HandS.Zip
import KE.GoesEnum
import KE.GoesMore
import HandS.ForDict
import PyProof.ReprBulk
import PyProof.FitsInt
import HandS.Head3
import PySem.Challenge.RW_momentpaths_k57_whole_told_ways_of_sorts
set_option Elab.async false
set_option linter.all false
set_option maxRecDepth 100000
set_option maxHeartbeats 0
/-! EvSem: a small reified language of pure data, and what it computes: no program, no heap here. -/
namespace Ev
open PySem L2

abbrev D := PyData

/-- a slot of a frame: nothing known; data that nobody changes; a list or dict of one's own; the source of draws -/
inductive Sl where
  | no | fz (d : D) | ow (d : D) | src

/-- a value: data that nobody changes; a new list or dict; the thing that slot i owns; the source -/
inductive Vl where
  | fz (d : D) | fr (d : D) | bw (i : Nat) | sr

abbrev Ev := List Sl

def Sl.rd : Sl → Option D
  | .fz d => some d
  | .ow d => some d
  | _ => none

/-- what a value is now -/
def Vl.rd (env : Ev) : Vl → Option D
  | .fz d => some d
  | .fr d => some d
  | .bw i => (env.getD i .no).rd
  | .sr => none

/-- a value given away: what is owned is never changed again -/
def Vl.give (v : Vl) (env : Ev) (k : D → Ev → Prop) : Prop :=
  match v with
  | .fz d => k d env
  | .fr d => k d env
  | .bw i => match env.getD i .no with
    | .ow d => k d (env.set i (.fz d))
    | .fz d => k d env
    | _ => False
  | .sr => False

inductive Bop where
  | addI | subI | mulI | fdivI | modI | powI | addL | addT | mulL | mulT | addS
  deriving DecidableEq
inductive Cop where
  | eq | ne | eqI | neI | eqS | neS | ltI | leI | gtI | geI | inQ | ninQ | ltT | leT | gtT | geT
  deriving DecidableEq
/-- built-ins of one argument -/
inductive B1 where
  | len | lenD | tupL | tupT | lstQ | intI | intB | abs | repr | all | sum | sumT | maxL | minL | maxT | minT | isT | isI | isB | isS | sortI | sortD | dictL
  deriving DecidableEq
inductive B2 where
  | max2 | min2 | gcd | comb | indexL | indexT
  deriving DecidableEq
inductive Ik where
  | lst | tup | rng1 | rng2 | rng3 | zipL | zipT | zipLT | zipTL | enL | enT | items
  deriving DecidableEq
/-- targets -/
inductive Tg where
  | s (i : Nat) | nil | cons (a b : Tg) | t (a : Tg)
  deriving DecidableEq

inductive Ex where
  | k (d : D)
  | v (i : Nat)
  | mv (i : Nat)
  | g (x : String) (d : D)
  | op (o : Bop) (a b : Ex)
  | neg (a : Ex)
  | cmp (c : Cop) (a b : Ex)
  | ch2 (c d : Cop) (a b e : Ex) | ch3 (c d f : Cop) (a b e g : Ex)
  | isN (a : Ex) | notN (a : Ex)
  | isB (b : Bool) (a : Ex) | notB (b : Bool) (a : Ex)
  | and (a b : Ex) | or (a b : Ex) | not (a : Ex)
  | ite (t a b : Ex)
  | nil | cons (a b : Ex) | star (a b : Ex)
  | tup (a : Ex) | lst (a : Ex) | dic (a : Ex)
  | idx (a b : Ex) | dget (a b : Ex) | dgetd (a b e : Ex) | dIn (n : Bool) (a b : Ex)
  | slc (l h : Bool) (a lo hi : Ex) | revL (a : Ex) | slcT (l : Bool) (st : Int) (a lo : Ex)
  | b1 (f : B1) (a : Ex) | b2 (f : B2) (a b : Ex)
  | lrng (l : Bool) (n : Nat) (a : Ex)
  | pop0 (i : Nat) | pop1 (i : Nat) (a : Ex)
  | call (f : Nat) (s : Option Nat) (a : Ex)
  | comp (own : List Nat) (ik : Ik) (it : Ex) (tg : Tg) (t e : Ex)

inductive Stm where
  | skip | seq (a b : Stm)
  | set (i : Nat) (e : Ex)
  | unp (tg : Tg) (e : Ex)
  | par (is : List Nat) (e : Ex)
  | app (i : Nat) (e : Ex) | ext (i : Nat) (e : Ex) | rem (i : Nat) (e : Ex) | popS (i : Nat) | updD (i : Nat) (e : Ex)
  | sto (i : Nat) (k e : Ex) | sto2 (i : Nat) (k l e : Ex)
  | stoD (i : Nat) (k e : Ex)
  | aug (i : Nat) (e : Ex)
  | ifs (t : Ex) (a b : Stm)
  | forS (ik : Ik) (it : Ex) (tg : Tg) (b : Stm)
  | whl (t : Ex) (b : Stm)
  | ret (e : Ex) | brk | drop (e : Ex) | nev

/-! ### operators -/
/-- factors that the machine multiplies -/
def MulOk (i j : Int) : Prop := i.natAbs < 2 ^ 64 ∨ j.natAbs < 2 ^ 64 ∨ i.natAbs.log2 + j.natAbs.log2 < 100000000
def DivOk (j : Int) : Prop := 0 < j
def Fits (n : Nat) : Prop := n ≤ 16777216

def bopS (o : Bop) (x y : D) (k : Bool → D → Prop) : Prop :=
  match o, x, y with
  | .addI, .int i, .int j => k false (.int (i + j))
  | .subI, .int i, .int j => k false (.int (i - j))
  | .mulI, .int i, .int j => MulOk i j ∧ k false (.int (i * j))
  | .fdivI, .int i, .int j => DivOk j ∧ k false (.int (i / j))
  | .modI, .int i, .int j => 0 < j ∧ k false (.int (i % j))
  | .powI, .int i, .int j => (0 ≤ j ∧ j ≤ 1000000 ∧ i.natAbs < 2 ^ 64) ∧ k false (.int (i ^ j.toNat))
  | .addL, .list xs, .list ys => Fits (xs.length + ys.length) ∧ k true (.list (xs ++ ys))
  | .addT, .tuple xs, .tuple ys => Fits (xs.length + ys.length) ∧ k false (.tuple (xs ++ ys))
  | .mulL, .list xs, .int j => (-1000000 ≤ j ∧ j ≤ 1000000 ∧ Fits (xs.length * j.toNat)) ∧ k true (.list (List.replicate j.toNat xs).flatten)
  | .mulT, .tuple xs, .int j => (-1000000 ≤ j ∧ j ≤ 1000 ∧ xs.length ≤ 1000) ∧ k false (.tuple (List.replicate j.toNat xs).flatten)
  | .addS, .str a, .str b => Fits (a.length + b.length) ∧ k false (.str (a ++ b))
  | _, _, _ => False

/-- data without dicts, not too deep -/
def Shp (d : D) : Prop := SeqAt.shaped d = true
def Flat : D → Bool
  | .none | .bool _ | .int _ | .str _ => true
  | _ => false
/-- keys of dicts -/
def isKey : D → Bool
  | .int _ | .str _ => true
  | _ => false
def look (kvs : List (D × D)) (x : D) : Option D := (kvs.find? fun p => PyData.eqv p.1 x).map (·.2)
def put (kvs : List (D × D)) (x v : D) : List (D × D) :=
  if (kvs.any fun p => PyData.eqv p.1 x) = true then kvs.map (fun p => if PyData.eqv p.1 x = true then (p.1, v) else p) else kvs ++ [(x, v)]
def putAll (kvs more : List (D × D)) : List (D × D) := more.foldl (fun acc p => put acc p.1 p.2) kvs
/-- keys and values by turns -/
def pairs? : List D → Option (List (D × D))
  | [] => some []
  | k :: v :: r => if isKey k = true then (pairs? r).map ((k, v) :: ·) else none
  | _ => none
/-- a list of pairs -/
def pairsL? : List D → Option (List (D × D))
  | [] => some []
  | .tuple [k, v] :: r => if isKey k = true then (pairsL? r).map ((k, v) :: ·) else none
  | _ => none
/-- things in order, as the machine sorts them -/
abbrev sortD (xs : List D) : List D := xs.mergeSort (PySem.W.dataLe false id)
/-- things that can be sorted -/
def SortsD (xs : List D) : Prop := (xs.length < 2 ∨ (PySem.W.AllAlike xs ∧ PySem.W.Sortable xs)) ∧ ∀ d ∈ xs, d.depth ≤ 60 ∧ d.hasDict = false
/-- two things that can be told less or not -/
def LtOk (x y : D) : Prop := PySem.W.alike x y = true ∧ x ≠ .none ∧ x.depth ≤ 60 ∧ x.hasDict = false ∧ y.hasDict = false
/-- tuples of ints in order -/
def intsOf? : List D → Option (List Int)
  | [] => some []
  | .int i :: r => (intsOf? r).map (i :: ·)
  | _ :: _ => none
def boolsOf? : List D → Option (List Bool)
  | [] => some []
  | .bool b :: r => (boolsOf? r).map (b :: ·)
  | _ :: _ => none

def cmpS (c : Cop) (x y : D) (k : Bool → Prop) : Prop :=
  match c, x, y with
  | .eq, x, y => Shp x ∧ Shp y ∧ k (PyData.eqv x y)
  | .ne, x, y => Shp x ∧ Shp y ∧ k (!PyData.eqv x y)
  | .eqI, .int i, .int j => k (decide (i = j))
  | .neI, .int i, .int j => k (!decide (i = j))
  | .eqS, .str a, .str b => k (decide (a = b))
  | .neS, .str a, .str b => k (!decide (a = b))
  | .ltI, .int i, .int j => k (decide (i < j))
  | .leI, .int i, .int j => k (decide (i ≤ j))
  | .gtI, .int i, .int j => k (decide (j < i))
  | .geI, .int i, .int j => k (decide (j ≤ i))
  | .inQ, x, .list ys => Flat x = true ∧ ys.all Flat = true ∧ k (ys.any fun y => PyData.eqv y x)
  | .inQ, x, .tuple ys => Flat x = true ∧ ys.all Flat = true ∧ k (ys.any fun y => PyData.eqv y x)
  | .ninQ, x, .list ys => Flat x = true ∧ ys.all Flat = true ∧ k (!ys.any fun y => PyData.eqv y x)
  | .ninQ, x, .tuple ys => Flat x = true ∧ ys.all Flat = true ∧ k (!ys.any fun y => PyData.eqv y x)
  | .ltT, x, y => LtOk x y ∧ k (PySem.W.dataLt x y)
  | _, _, _ => False

def isNoneD : D → Bool | .none => true | _ => false
def isTupD : D → Bool | .tuple _ => true | _ => false
def isIntD : D → Bool | .int _ => true | .bool _ => true | _ => false
def isBoolD : D → Bool | .bool _ => true | _ => false
def isStrD : D → Bool | .str _ => true | _ => false
/-- data whose text the machine writes -/
def Shows (d : D) : Prop := d.showable = true ∧ d.hasDict = false ∧ d.depth ≤ 60 ∧ d.shown.length ≤ 16777216

def b1S (f : B1) (x : D) (k : Bool → D → Prop) : Prop :=
  match f, x with
  | .len, .list xs => k false (.int xs.length)
  | .len, .tuple xs => k false (.int xs.length)
  | .lenD, .dict xs => k false (.int xs.length)
  | .tupL, .list xs => k false (.tuple xs)
  | .tupT, .tuple xs => k false (.tuple xs)
  | .lstQ, .list xs => k true (.list xs)
  | .lstQ, .tuple xs => k true (.list xs)
  | .intI, .int i => k false (.int i)
  | .intB, .bool b => k false (.int (if b then 1 else 0))
  | .abs, .int i => k false (.int (if i < 0 then -i else i))
  | .repr, d => Shows d ∧ k false (.str d.shown)
  | .all, .list xs => ∃ bs, boolsOf? xs = some bs ∧ k false (.bool (bs.all id))
  | .sum, .list xs => ∃ ns, intsOf? xs = some ns ∧ k false (.int ns.sum)
  | .sumT, .tuple xs => ∃ ns, intsOf? xs = some ns ∧ k false (.int ns.sum)
  | .maxT, .tuple xs => ∃ ns, intsOf? xs = some ns ∧ 0 < ns.length ∧ ∀ m, m ∈ ns → (∀ y ∈ ns, y ≤ m) → k false (.int m)
  | .minT, .tuple xs => ∃ ns, intsOf? xs = some ns ∧ 0 < ns.length ∧ ∀ m, m ∈ ns → (∀ y ∈ ns, m ≤ y) → k false (.int m)
  | .sortD, .list xs => SortsD xs ∧ k true (.list (sortD xs))
  | .sortD, .tuple xs => SortsD xs ∧ k true (.list (sortD xs))
  | .dictL, .list xs => ∃ ps, pairsL? xs = some ps ∧ k true (.dict (putAll [] ps))
  | .maxL, .list xs => ∃ ns, intsOf? xs = some ns ∧ 0 < ns.length ∧ ∀ m, m ∈ ns → (∀ y ∈ ns, y ≤ m) → k false (.int m)
  | .minL, .list xs => ∃ ns, intsOf? xs = some ns ∧ 0 < ns.length ∧ ∀ m, m ∈ ns → (∀ y ∈ ns, m ≤ y) → k false (.int m)
  | .isT, d => k false (.bool (isTupD d))
  | .isI, d => k false (.bool (isIntD d))
  | .isB, d => k false (.bool (isBoolD d))
  | .isS, d => k false (.bool (isStrD d))
  | .sortI, .list xs => ∃ ns, intsOf? xs = some ns ∧ ∀ ms : List Int, ms.Perm ns → ms.Pairwise (· ≤ ·) → k true (.list (ms.map PyData.int))
  | _, _ => False

def b2S (f : B2) (x y : D) (k : Bool → D → Prop) : Prop :=
  match f, x, y with
  | .max2, .int i, .int j => k false (.int (if j > i then j else i))
  | .min2, .int i, .int j => k false (.int (if j < i then j else i))
  | .gcd, .int i, .int j => k false (.int ((Nat.gcd i.natAbs j.natAbs : Nat) : Int))
  | .indexL, .list xs, y => Flat y = true ∧ xs.all Flat = true ∧ ∃ j : Nat, xs.findIdx? (fun z => PyData.eqv z y) = some j ∧ k false (.int (j : Nat))
  | .indexT, .tuple xs, y => Flat y = true ∧ xs.all Flat = true ∧ ∃ j : Nat, xs.findIdx? (fun z => PyData.eqv z y) = some j ∧ k false (.int (j : Nat))
  | _, _, _ => False

/-- an index, counted from the end below 0 -/
def at? (xs : List D) (i : Int) : Option D := atI xs i
def idxS (x y : D) (k : D → Prop) : Prop :=
  match x, y with
  | .list xs, .int i => ∃ d, at? xs i = some d ∧ k d
  | .tuple xs, .int i => ∃ d, at? xs i = some d ∧ k d
  | _, _ => False
def cut (xs : List D) (lo hi : Option Int) : List D := (xs.drop (HT.sIx xs.length 0 lo)).take (HT.sIx xs.length xs.length hi - HT.sIx xs.length 0 lo)
/-- a part of a slice that is there, or not -/
def partOf (l : Bool) (v : Vl) : Option (Option Int) :=
  if l = true then (match v with | .fz (.int i) => some (some i) | _ => none) else some none
def slcS (x : D) (a b : Option Int) (k : Bool → D → Prop) : Prop :=
  match x with
  | .list xs => k true (.list (cut xs a b))
  | .tuple xs => k false (.tuple (cut xs a b))
  | _ => False

/-- a part by steps, to the end -/
def pickG {α : Type} (xs : List α) (st : Int) (lo : Option Int) : List α :=
  (List.range (Builtin.Slice.slicePlaces (Builtin.Slice.sliceAdjust lo none st (xs.length : Int)).1 (Builtin.Slice.sliceAdjust lo none st (xs.length : Int)).2 st)).filterMap fun (m : Nat) => xs[((Builtin.Slice.sliceAdjust lo none st (xs.length : Int)).1 + (m : Int) * st).toNat]?
def rngL (lo : Int) (n : Nat) (c : Int) : List D := (List.range n).map fun (i : Nat) => .int (lo + (i : Int) * c)
/-- list(range(..)), tuple(range(..)) -/
def rngOf (n : Nat) (xs : List D) (k : List D → Prop) : Prop :=
  match n, xs with
  | 1, [.int j] => (-1000000 ≤ j ∧ j ≤ 1000000) ∧ k (rngL 0 j.toNat 1)
  | 2, [.int i, .int j] => (-1000000 ≤ i ∧ i ≤ 1000000 ∧ -1000000 ≤ j ∧ j ≤ 1000000) ∧ k (rngL i (j - i).toNat 1)
  | 3, [.int i, .int j, .int (-1)] => (-1000000 ≤ i ∧ i ≤ 1000000 ∧ -1000000 ≤ j ∧ j ≤ 1000000) ∧ k (rngL i (i - j).toNat (-1))
  | _, _ => False
/-- what a loop walks: each thing in turn -/
def enumL (i : Nat) : List D → List D
  | [] => []
  | x :: r => .tuple [.int (i : Nat), x] :: enumL (i + 1) r
def zipD (xs ys : List D) : List D := List.zipWith (fun x y => .tuple [x, y]) xs ys
def walks (ik : Ik) (x : D) (k : List D → Prop) : Prop :=
  match ik, x with
  | .lst, .list xs => k xs
  | .tup, .tuple xs => k xs
  | .rng1, .tuple [.int n] => (-1000000000 ≤ n ∧ n ≤ 16777216) ∧ k (rngL 0 n.toNat 1)
  | .rng2, .tuple [.int a, .int b] => (-1000000000 ≤ a ∧ a ≤ 1000000000 ∧ -1000000000 ≤ b ∧ b ≤ 1000000000 ∧ b - a ≤ 16777216) ∧ k (rngL a (b - a).toNat 1)
  | .rng3, .tuple [.int a, .int b, .int (-1)] => (-1000000 ≤ a ∧ a ≤ 1000000 ∧ -1000000 ≤ b ∧ b ≤ 1000000) ∧ k (rngL a (a - b).toNat (-1))
  | .zipL, .tuple [.list xs, .list ys] => k (zipD xs ys)
  | .zipT, .tuple [.tuple xs, .tuple ys] => k (zipD xs ys)
  | .zipLT, .tuple [.list xs, .tuple ys] => k (zipD xs ys)
  | .zipTL, .tuple [.tuple xs, .list ys] => k (zipD xs ys)
  | .enL, .tuple [.list xs] => k (enumL 0 xs)
  | .enT, .tuple [.tuple xs] => k (enumL 0 xs)
  | _, _ => False

def items? : D → Option (List D)
  | .list xs => some xs
  | .tuple xs => some xs
  | _ => none

/-! ### frames -/
def setS (env : Ev) (i : Nat) (s : Sl) : Ev := env.set i s
/-- a target takes a thing; what stood there of one's own is let go -/
def bindT : Tg → D → Ev → (Ev → Prop) → Prop
  | .s i, d, env, k => i < env.length ∧ k (env.set i (.fz d))
  | .nil, d, env, k => d = .tuple [] ∧ k env
  | .cons a b, d, env, k => match d with
    | .tuple (x :: r) => bindT a x env fun e => bindT b (.tuple r) e k
    | _ => False
  | .t a, d, env, k => bindT a d env k
def wipeE (env : Ev) : List Nat → Ev
  | [] => env
  | i :: r => (wipeE env r).set i .no
/-- behind a comprehension: its own names stand as they stood -/
def backE (old new : Ev) : List Nat → Ev
  | [] => new
  | i :: r => (backE old new r).set i (match old.getD i .no with | .fz d => .fz d | _ => .no)
/-- the source stands where it is said to stand -/
def srcAt (s : Option Nat) (env : Ev) : Prop :=
  match s with
  | none => True
  | some i => env.getD i .no = .src

/-- how a block ends -/
structure En where
  nx : Ev → Prop
  rt : Bool → D → Prop
  bk : Ev → Prop := fun _ => False

/-- a function's meaning: its arguments; what is wanted of the result (is it a new list?) -/
abbrev Fn := List D → (Bool → D → Prop) → Prop
abbrev Fns := Nat → Fn

def rets (fr : Bool) (d : D) : Vl := if fr then .fr d else .fz d
def with1 (v : Vl) (env : Ev) (k : D → Prop) : Prop := ∃ d, v.rd env = some d ∧ k d
def truth (v : Vl) (k : Bool → Prop) : Prop := ∃ b, v = .fz (.bool b) ∧ k b

/-- the elements of a comprehension, one behind the other; j: what one turn does -/
def compL (j : D → Ev → (Option D → Ev → Prop) → Prop) : List D → Ev → List D → (List D → Ev → Prop) → Prop
  | [], env, acc, k => k acc env
  | d :: ds, env, acc, k => j d env fun o e => compL j ds e (match o with | some y => acc ++ [y] | none => acc) k

def w (F : Fns) : Ex → Ev → (Vl → Ev → Prop) → Prop
  | .k d, env, k => k (.fz d) env
  | .v i, env, k => match env.getD i .no with
    | .fz d => k (.fz d) env
    | .ow _ => k (.bw i) env
    | .src => k .sr env
    | .no => False
  | .mv i, env, k => match env.getD i .no with
    | .fz d => k (.fz d) env
    | .ow d => k (.fr d) (env.set i .no)
    | _ => False
  | .g _ d, env, k => k (.fz d) env
  | .op o a b, env, k => w F a env fun va e1 => w F b e1 fun vb e2 => with1 va e2 fun x => with1 vb e2 fun y => bopS o x y fun fr d => k (rets fr d) e2
  | .neg a, env, k => w F a env fun va e1 => ∃ i, va = .fz (.int i) ∧ k (.fz (.int (-i))) e1
  | .cmp c a b, env, k => w F a env fun va e1 => w F b e1 fun vb e2 => with1 va e2 fun x => with1 vb e2 fun y => cmpS c x y fun r => k (.fz (.bool r)) e2
  | .ch2 c d a b e, env, k => w F a env fun va e1 => w F b e1 fun vb e2 => with1 va e2 fun x => with1 vb e2 fun y => cmpS c x y fun r =>
      if r = true then w F e e2 fun ve e3 => with1 vb e3 fun y => with1 ve e3 fun z => cmpS d y z fun r => k (.fz (.bool r)) e3 else k (.fz (.bool false)) e2
  | .ch3 _ _ _ _ _ _ _, _, _ => False
  | .isN a, env, k => w F a env fun va e1 => with1 va e1 fun x => k (.fz (.bool (isNoneD x))) e1
  | .notN a, env, k => w F a env fun va e1 => with1 va e1 fun x => k (.fz (.bool (!isNoneD x))) e1
  | .isB b a, env, k => w F a env fun va e1 => ∃ c, va = .fz (.bool c) ∧ k (.fz (.bool (c == b))) e1
  | .notB b a, env, k => w F a env fun va e1 => ∃ c, va = .fz (.bool c) ∧ k (.fz (.bool (c != b))) e1
  | .and a b, env, k => w F a env fun va e1 => truth va fun c => if c = true then w F b e1 fun vb e2 => truth vb fun c => k (.fz (.bool c)) e2 else k (.fz (.bool false)) e1
  | .or a b, env, k => w F a env fun va e1 => truth va fun c => if c = true then k (.fz (.bool true)) e1 else w F b e1 fun vb e2 => truth vb fun c => k (.fz (.bool c)) e2
  | .not a, env, k => w F a env fun va e1 => truth va fun c => k (.fz (.bool (!c))) e1
  | .ite t a b, env, k => w F t env fun vt e1 => truth vt fun c => if c = true then w F a e1 k else w F b e1 k
  | .nil, env, k => k (.fz (.tuple [])) env
  | .cons a b, env, k => w F a env fun va e1 => va.give e1 fun x e2 => w F b e2 fun vb e3 => ∃ xs, vb = .fz (.tuple xs) ∧ k (.fz (.tuple (x :: xs))) e3
  | .star a b, env, k => w F a env fun va e1 => va.give e1 fun x e2 => ∃ ys, items? x = some ys ∧ w F b e2 fun vb e3 => ∃ xs, vb = .fz (.tuple xs) ∧ k (.fz (.tuple (ys ++ xs))) e3
  | .tup a, env, k => w F a env fun va e1 => ∃ xs, va = .fz (.tuple xs) ∧ Fits xs.length ∧ k (.fz (.tuple xs)) e1
  | .lst a, env, k => w F a env fun va e1 => ∃ xs, va = .fz (.tuple xs) ∧ Fits xs.length ∧ k (.fr (.list xs)) e1
  | .dic a, env, k => w F a env fun va e1 => ∃ xs, va = .fz (.tuple xs) ∧ ∃ ps, pairs? xs = some ps ∧ ps.length ≤ 15 ∧ k (.fr (.dict (putAll [] ps))) e1
  | .idx a b, env, k => w F a env fun va e1 => w F b e1 fun vb e2 => with1 va e2 fun x => with1 vb e2 fun y => idxS x y fun d => k (.fz d) e2
  | .dget a b, env, k => w F a env fun va e1 => w F b e1 fun vb e2 => with1 va e2 fun x => with1 vb e2 fun y => ∃ kvs, x = .dict kvs ∧ isKey y = true ∧ ∃ d, look kvs y = some d ∧ k (.fz d) e2
  | .dgetd a b e, env, k => w F a env fun va e1 => (∃ q, va.rd e1 = some (.dict q)) ∧ w F b e1 fun vb e2 => w F e e2 fun ve e3 => ve.give e3 fun z e4 => with1 va e4 fun x => with1 vb e4 fun y => ∃ kvs, x = .dict kvs ∧ isKey y = true ∧ k (.fz ((look kvs y).getD z)) e4
  | .dIn n a b, env, k => w F a env fun va e1 => w F b e1 fun vb e2 => with1 va e2 fun x => with1 vb e2 fun y => ∃ kvs, y = .dict kvs ∧ isKey x = true ∧ k (.fz (.bool ((look kvs x).isSome != n))) e2
  | .slc l h a lo hi, env, k => w F a env fun va e1 => w F lo e1 fun vl e2 => ∃ p, partOf l vl = some p ∧ w F hi e2 fun vh e3 => ∃ q, partOf h vh = some q ∧ with1 va e3 fun x => slcS x p q fun fr d => k (rets fr d) e3
  | .revL a, env, k => w F a env fun va e1 => with1 va e1 fun x => ∃ xs, x = .list xs ∧ k (.fr (.list xs.reverse)) e1
  | .slcT l st a lo, env, k => w F a env fun va e1 => w F lo e1 fun vl e2 => ∃ p, partOf l vl = some p ∧ with1 va e2 fun x => ∃ xs, x = .tuple xs ∧ k (.fz (.tuple (pickG xs st p))) e2
  | .b1 f a, env, k => w F a env fun va e1 => with1 va e1 fun x => b1S f x fun fr d => k (rets fr d) e1
  | .b2 f a b, env, k => w F a env fun va e1 => (match f with | .indexL => ∃ q, va.rd e1 = some (.list q) | .indexT => ∃ q, va.rd e1 = some (.tuple q) | _ => True) ∧ w F b e1 fun vb e2 => with1 va e2 fun x => with1 vb e2 fun y => b2S f x y fun fr d => k (rets fr d) e2
  | .lrng l n a, env, k => w F a env fun va e1 => ∃ xs, va = .fz (.tuple xs) ∧ rngOf n xs fun ys => k (if l = true then .fr (.list ys) else .fz (.tuple ys)) e1
  | .pop0 i, env, k => match env.getD i .no with
    | .ow (.list xs) => ∃ d, xs.getLast? = some d ∧ k (.fz d) (env.set i (.ow (.list xs.dropLast)))
    | _ => False
  | .pop1 i a, env, k => (∃ ys, env.getD i .no = .ow (.list ys)) ∧ w F a env fun va e1 => ∃ j : Int, va = .fz (.int j) ∧ (match e1.getD i .no with
    | .ow (.list xs) => ∃ d, 0 ≤ j ∧ j < 1000000000 ∧ xs[j.toNat]? = some d ∧ k (.fz d) (e1.set i (.ow (.list (xs.eraseIdx j.toNat))))
    | _ => False)
  | .call f s a, env, k => srcAt s env ∧ w F a env fun va e1 => ∃ xs, va = .fz (.tuple xs) ∧ F f xs fun fr d => k (rets fr d) e1
  | .comp own ik it tg t e, env, k => w F it env fun vi e1 => vi.give e1 fun d e2 => walks ik d fun ds =>
      compL (fun x e0 kk => bindT tg x (wipeE e0 own) fun ea => w F t ea fun vt eb => truth vt fun c =>
        if c = true then w F e eb fun vy ec => vy.give ec fun y ed => kk (some y) ed else kk none eb) ds e2 [] fun ys e9 => k (.fr (.list ys)) (backE e2 e9 own)

def forL (j : D → Ev → En → Prop) : List D → Ev → En → Prop
  | [], env, E => E.nx env
  | d :: ds, env, E => j d env { nx := fun e => forL j ds e E, rt := E.rt, bk := E.nx }
def whileL (t : Ev → (Bool → Ev → Prop) → Prop) (j : Ev → En → Prop) : Nat → Ev → En → Prop
  | 0, _, _ => False
  | n + 1, env, E => t env fun c e => if c = true then j e { nx := fun e => whileL t j n e E, rt := E.rt, bk := E.nx } else E.nx e
def setV (i : Nat) (v : Vl) (env : Ev) (k : Ev → Prop) : Prop := i < env.length ∧ (match v with
  | .fz d => k (env.set i (.fz d))
  | .fr d => k (env.set i (.ow d))
  | .bw _ => v.give env fun d e => k (e.set i (.fz d))
  | .sr => False)
/-- a value kept while others are made -/
def hold (v : Vl) (env : Ev) (k : Vl → Ev → Prop) : Prop :=
  match v with
  | .fr d => k (.fr d) env
  | v => v.give env fun d e => k (.fz d) e
def wPar (F : Fns) : Ex → Ev → (List Vl → Ev → Prop) → Prop
  | .nil, env, k => k [] env
  | .cons a b, env, k => w F a env fun v e1 => hold v e1 fun v' e2 => wPar F b e2 fun vs e3 => k (v' :: vs) e3
  | _, _, _ => False
def slotV : Vl → Sl
  | .fz d => .fz d
  | .fr d => .ow d
  | _ => .no
def parSet : List Nat → List Vl → Ev → Ev
  | i :: is, v :: vs, env => (parSet is vs env).set i (slotV v)
  | _, _, env => env
/-- x[a] = y -/
def stoAt (wa : Ev → (Vl → Ev → Prop) → Prop) (i : Nat) (y : D) (env : Ev) (n : Ev → Prop) : Prop :=
  (∃ ys, env.getD i .no = .ow (.list ys)) ∧ wa env fun va e3 => ∃ j : Int, va = .fz (.int j) ∧ (match e3.getD i .no with
    | .ow (.list xs) => ∃ m, ixN xs.length j = some m ∧ n (e3.set i (.ow (.list (xs.set m y))))
    | _ => False)

def wS (F : Fns) : Stm → Ev → En → Prop
  | .skip, env, E => E.nx env
  | .seq a b, env, E => wS F a env { E with nx := fun e => wS F b e E }
  | .set i e, env, E => w F e env fun v e1 => setV i v e1 E.nx
  | .unp tg e, env, E => w F e env fun v e1 => v.give e1 fun d e2 => bindT tg d e2 E.nx
  | .par is e, env, E => wPar F e env fun vs e1 => vs.length = is.length ∧ (∀ i ∈ is, i < e1.length) ∧ E.nx (parSet is vs e1)
  | .app i e, env, E => (∃ ys, env.getD i .no = .ow (.list ys)) ∧ w F e env fun v e1 => v.give e1 fun y e2 => (match e2.getD i .no with
    | .ow (.list xs) => xs.length < 16777216 ∧ E.nx (e2.set i (.ow (.list (xs ++ [y]))))
    | _ => False)
  | .ext i e, env, E => (∃ ys, env.getD i .no = .ow (.list ys)) ∧ w F e env fun v e1 => v.give e1 fun y e2 => (match e2.getD i .no, y with
    | .ow (.list xs), .list ys => Fits (xs.length + ys.length) ∧ E.nx (e2.set i (.ow (.list (xs ++ ys))))
    | .ow (.list xs), .tuple ys => Fits (xs.length + ys.length) ∧ E.nx (e2.set i (.ow (.list (xs ++ ys))))
    | _, _ => False)
  | .rem i e, env, E => (∃ ys, env.getD i .no = .ow (.list ys)) ∧ w F e env fun v e1 => ∃ j : Int, v = .fz (.int j) ∧ (match e1.getD i .no with
    | .ow (.list xs) => ∃ ns : List Int, xs = ns.map .int ∧ j ∈ ns ∧ E.nx (e1.set i (.ow (.list ((ns.erase j).map .int))))
    | _ => False)
  | .popS i, env, E => (match env.getD i .no with
    | .ow (.list xs) => xs ≠ [] ∧ E.nx (env.set i (.ow (.list xs.dropLast)))
    | _ => False)
  | .updD i e, env, E => (∃ ys, env.getD i .no = .ow (.dict ys)) ∧ w F e env fun v e1 => ∃ ys, v = .fr (.dict ys) ∧ (match e1.getD i .no with
    | .ow (.dict xs) => Fits (xs.length + ys.length) ∧ E.nx (e1.set i (.ow (.dict (putAll xs ys))))
    | _ => False)
  | .sto i a e, env, E => w F e env fun v e1 => v.give e1 fun y e2 => (∃ ys, e2.getD i .no = .ow (.list ys)) ∧ w F a e2 fun va e3 => ∃ j : Int, va = .fz (.int j) ∧ (match e3.getD i .no with
    | .ow (.list xs) => ∃ m, ixN xs.length j = some m ∧ E.nx (e3.set i (.ow (.list (xs.set m y))))
    | _ => False)
  | .sto2 i a b e, env, E => w F e env fun v e1 => ∃ x y, v = .fz (.tuple [x, y]) ∧ stoAt (w F a) i x e1 fun e2 => stoAt (w F b) i y e2 E.nx
  | .stoD i a e, env, E => w F e env fun v e1 => v.give e1 fun y e2 => (∃ ys, e2.getD i .no = .ow (.dict ys)) ∧ w F a e2 fun va e3 => ∃ x, va = .fz x ∧ isKey x = true ∧ (match e3.getD i .no with
    | .ow (.dict xs) => xs.length < 16777216 ∧ E.nx (e3.set i (.ow (.dict (put xs x y))))
    | _ => False)
  | .aug i e, env, E => ∃ a : Int, env.getD i .no = .fz (.int a) ∧ w F e env fun v e1 => ∃ b : Int, v = .fz (.int b) ∧ i < e1.length ∧ E.nx (e1.set i (.fz (.int (a + b))))
  | .ifs t a b, env, E => w F t env fun v e1 => truth v fun c => if c = true then wS F a e1 E else wS F b e1 E
  | .forS ik it tg b, env, E => w F it env fun vi e1 => vi.give e1 fun d e2 => walks ik d fun ds => forL (fun x e0 E0 => bindT tg x e0 fun ea => wS F b ea E0) ds e2 E
  | .whl t b, env, E => ∃ n, whileL (fun e k => w F t e fun v e1 => truth v fun c => k c e1) (fun e E0 => wS F b e E0) n env E
  | .ret e, env, E => w F e env fun v e1 => (match v with
    | .fz d => E.rt false d
    | .fr d => E.rt true d
    | .bw i => (match e1.getD i .no with | .ow d => E.rt true d | .fz d => E.rt false d | _ => False)
    | .sr => False)
  | .brk, env, E => E.bk env
  | .drop e, env, E => w F e env fun _ e1 => E.nx e1
  | .nev, _, _ => False

/-- a def: how many parameters (the source among them: is it the first one?), how many slots, its body -/
structure Df where
  par : Nat
  src : Bool
  slots : Nat
  body : Stm

def frame (d : Df) (xs : List D) : Ev := (if d.src then [.src] else []) ++ xs.map .fz ++ List.replicate (d.slots - d.par) .no
def run (F : Fns) (d : Df) (xs : List D) (k : Bool → D → Prop) : Prop :=
  xs.length + (if d.src then 1 else 0) = d.par ∧ wS F d.body (frame d xs) { nx := fun _ => k false .none, rt := k }
/-- a table of defs, and of what is known of defs that are none of these -/
inductive Tb where
  | df (d : Df) | fn (f : Fn)
def callN (T : Nat → Option Tb) : Nat → Fns
  | 0 => fun _ _ _ => False
  | n + 1 => fun f xs k => match T f with
    | some (.df d) => run (callN T n) d xs k
    | some (.fn g) => g xs k
    | none => False
end Ev
/-! EvRep: how data stands in the heap. -/
namespace Ev
open PySem PySem.Spec PyProof.Rows L2

def keyD : L2.Key → D
  | .inl i => .int i
  | .inr x => .str x

/-- an object with no names of its own -/
abbrev Bare (o : Obj) : Prop := o.dict = none ∧ o.slots = #[]
/-- a tuple that carries no names of its own -/
def Tp (H : Hp) (a : Addr) (vs : List V) : Prop := ∃ o : Obj, H a = some (.frz o (.tup vs)) ∧ Bare o
mutual
/-- the value v is the data d; its lists and dicts are none of those at O -/
inductive Fz (K : PySem.W.Frag) (H : Hp) (O : Addr → Prop) : V → D → Prop
  | non : Fz K H O .non .none
  | bl (b : Bool) : Fz K H O (.bl b) (.bool b)
  | int (i : Int) : Fz K H O (.int i) (.int i)
  | str (x : Str) : Fz K H O (.str x) (.str x)
  | lst {a : Addr} {vs : List V} {ds : List D} : ¬ O a → H a = some (.lst vs) → vs.length ≤ sizeLine → FzL K H O vs ds → Fz K H O (.ref a) (.list ds)
  | tup {a : Addr} {vs : List V} {ds : List D} : ¬ O a → Tp H a vs → vs.length ≤ sizeLine → FzL K H O vs ds → Fz K H O (.ref a) (.tuple ds)
  | tupK {a : Addr} {vs : List V} {ds : List D} {o : Obj} : SqT K (fun _ => none) a vs → K.lookup a = some o → o.cls = .type "tuple" → Bare o → vs.length ≤ sizeLine → FzL K H O vs ds → Fz K H O (.ref a) (.tuple ds)
  | dic {a : Addr} {kvs : List (L2.Key × V)} {ds : List (D × D)} : ¬ O a → H a = some (.dK kvs) → kvs.length ≤ sizeLine → FzK K H O kvs ds → Fz K H O (.ref a) (.dict ds)
inductive FzL (K : PySem.W.Frag) (H : Hp) (O : Addr → Prop) : List V → List D → Prop
  | nil : FzL K H O [] []
  | cons {v : V} {vs : List V} {d : D} {ds : List D} : Fz K H O v d → FzL K H O vs ds → FzL K H O (v :: vs) (d :: ds)
inductive FzK (K : PySem.W.Frag) (H : Hp) (O : Addr → Prop) : List (L2.Key × V) → List (D × D) → Prop
  | nil : FzK K H O [] []
  | cons {k : L2.Key} {v : V} {kvs : List (L2.Key × V)} {d : D} {ds : List (D × D)} : Fz K H O v d → FzK K H O kvs ds → FzK K H O ((k, v) :: kvs) ((keyD k, d) :: ds)
end

/-- what is none of O's stays; O grows by new things alone -/
structure Step (H : Hp) (O : Addr → Prop) (H' : Hp) (O' : Addr → Prop) : Prop where
  keep : ∀ a o, H a = some o → ¬ O a → H' a = some o
  grow : ∀ a, O' a → O a ∨ H a = none

section
variable {K : PySem.W.Frag} {H H' H2 : Hp} {O O' O2 : Addr → Prop}
theorem Step.refl : Step H O H O := ⟨fun _ _ e _ => e, fun _ z => .inl z⟩
theorem Step.out (s : Step H O H' O') {a : Addr} {o : HO} (e : H a = some o) (n : ¬ O a) : ¬ O' a := fun z => by
  rcases s.grow a z with q | q
  · exact n q
  · rw [e] at q; cases q
theorem Step.trans (s : Step H O H' O') (t : Step H' O' H2 O2) : Step H O H2 O2 := by
  refine ⟨fun a o e n => t.keep a o (s.keep a o e n) (s.out e n), fun a z => ?_⟩
  rcases t.grow a z with q | q
  · exact s.grow a q
  · cases e : H a with
    | none => exact .inr rfl
    | some o =>
      by_cases n : O a
      · exact .inl n
      · have := s.keep a o e n
        rw [q] at this; cases this
/-- O may always shrink -/
theorem Step.less (h : ∀ a, O' a → O a) : Step H O H O' := ⟨fun _ _ e _ => e, fun a z => .inl (h a z)⟩
theorem Step.rd (s : Step H O H' O') {a : Addr} {u : HO} (n : ¬ O a) (h : Rd H a u) : Rd H' a u := by
  rcases h with h | ⟨o, h⟩
  · exact .inl (s.keep _ _ h n)
  · exact .inr ⟨o, s.keep _ _ h n⟩
theorem Step.outR (s : Step H O H' O') {a : Addr} {u : HO} (n : ¬ O a) (h : Rd H a u) : ¬ O' a := by
  rcases h with h | ⟨o, h⟩
  · exact s.out h n
  · exact s.out h n
theorem Tp.sq {a : Addr} {vs : List V} (h : Tp H a vs) : SqT K H a vs := let ⟨o, e, _⟩ := h; .inl (.inr ⟨o, e⟩)
theorem Step.tp (s : Step H O H' O') {a : Addr} {vs : List V} (n : ¬ O a) (h : Tp H a vs) : Tp H' a vs := let ⟨o, e, d⟩ := h; ⟨o, s.keep _ _ e n, d⟩
theorem Step.outP (s : Step H O H' O') {a : Addr} {vs : List V} (n : ¬ O a) (h : Tp H a vs) : ¬ O' a := let ⟨o, e, _⟩ := h; s.out e n
theorem sqT_any {a : Addr} {vs : List V} (h : SqT K (fun _ => none) a vs) : SqT K H a vs := by
  rcases h with (h | ⟨o, h⟩) | h
  · cases h
  · cases h
  · exact .inr h

mutual
theorem Fz.step (s : Step H O H' O') : ∀ {v : V} {d : D}, Fz K H O v d → Fz K H' O' v d
  | _, _, .non => .non
  | _, _, .bl b => .bl b
  | _, _, .int i => .int i
  | _, _, .str x => .str x
  | _, _, .lst n e z h => .lst (s.out e n) (s.keep _ _ e n) z (FzL.step s h)
  | _, _, .tup n e z h => .tup (s.outP n e) (s.tp n e) z (FzL.step s h)
  | _, _, .tupK e k c d z h => .tupK e k c d z (FzL.step s h)
  | _, _, .dic n e z h => .dic (s.out e n) (s.keep _ _ e n) z (FzK.step s h)
theorem FzL.step (s : Step H O H' O') : ∀ {vs : List V} {ds : List D}, FzL K H O vs ds → FzL K H' O' vs ds
  | _, _, .nil => .nil
  | _, _, .cons a b => .cons (Fz.step s a) (FzL.step s b)
theorem FzK.step (s : Step H O H' O') : ∀ {vs : List (L2.Key × V)} {ds : List (D × D)}, FzK K H O vs ds → FzK K H' O' vs ds
  | _, _, .nil => .nil
  | _, _, .cons a b => .cons (Fz.step s a) (FzK.step s b)
end

theorem FzL.length : ∀ {vs : List V} {ds : List D}, FzL K H O vs ds → vs.length = ds.length
  | _, _, .nil => rfl
  | _, _, .cons _ h => by simp [h.length]
theorem FzK.length : ∀ {vs : List (L2.Key × V)} {ds : List (D × D)}, FzK K H O vs ds → vs.length = ds.length
  | _, _, .nil => rfl
  | _, _, .cons _ h => by simp [h.length]
theorem FzL.get : ∀ {vs : List V} {ds : List D} {i : Nat} {v : V}, FzL K H O vs ds → vs[i]? = some v → ∃ d, ds[i]? = some d ∧ Fz K H O v d
  | _, _, _, _, .nil, h => by simp at h
  | _, _, 0, _, .cons a _, h => by simp at h; subst h; exact ⟨_, rfl, a⟩
  | _, _, i + 1, v, .cons _ b, h => by
    obtain ⟨d, h1, h2⟩ := FzL.get (i := i) (v := v) b (by simpa using h)
    exact ⟨d, by simpa using h1, h2⟩
theorem FzL.get' : ∀ {vs : List V} {ds : List D} {i : Nat} {d : D}, FzL K H O vs ds → ds[i]? = some d → ∃ v, vs[i]? = some v ∧ Fz K H O v d
  | _, _, _, _, .nil, h => by simp at h
  | _, _, 0, _, .cons a _, h => by simp at h; subst h; exact ⟨_, rfl, a⟩
  | _, _, i + 1, d, .cons _ b, h => by
    obtain ⟨v, h1, h2⟩ := FzL.get' (i := i) (d := d) b (by simpa using h)
    exact ⟨v, by simpa using h1, h2⟩
theorem FzL.append : ∀ {vs ws : List V} {ds es : List D}, FzL K H O vs ds → FzL K H O ws es → FzL K H O (vs ++ ws) (ds ++ es)
  | _, _, _, _, .nil, h => h
  | _, _, _, _, .cons a b, h => .cons a (b.append h)
theorem FzL.one {v : V} {d : D} (h : Fz K H O v d) : FzL K H O [v] [d] := .cons h .nil
theorem FzL.take : ∀ {vs : List V} {ds : List D} (n : Nat), FzL K H O vs ds → FzL K H O (vs.take n) (ds.take n)
  | _, _, 0, _ => by simp; exact .nil
  | _, _, _ + 1, .nil => by simp; exact .nil
  | _, _, n + 1, .cons a b => by simp; exact .cons a (b.take n)
theorem FzL.drop : ∀ {vs : List V} {ds : List D} (n : Nat), FzL K H O vs ds → FzL K H O (vs.drop n) (ds.drop n)
  | _, _, 0, h => h
  | _, _, _ + 1, .nil => by simp; exact .nil
  | _, _, n + 1, .cons _ b => by simp; exact b.drop n
theorem FzL.reverse : ∀ {vs : List V} {ds : List D}, FzL K H O vs ds → FzL K H O vs.reverse ds.reverse
  | _, _, .nil => .nil
  | _, _, .cons a b => by simp only [List.reverse_cons]; exact b.reverse.append (.one a)
theorem FzL.set : ∀ {vs : List V} {ds : List D} (i : Nat) {v : V} {d : D}, Fz K H O v d → FzL K H O vs ds → FzL K H O (vs.set i v) (ds.set i d)
  | _, _, _, _, _, _, .nil => .nil
  | _, _, 0, _, _, q, .cons _ b => .cons q b
  | _, _, i + 1, _, _, q, .cons a b => .cons a (b.set i q)
theorem FzL.eraseIdx : ∀ {vs : List V} {ds : List D} (i : Nat), FzL K H O vs ds → FzL K H O (vs.eraseIdx i) (ds.eraseIdx i)
  | _, _, _, .nil => .nil
  | _, _, 0, .cons _ b => b
  | _, _, i + 1, .cons a b => .cons a (b.eraseIdx i)
theorem FzL.dropLast {vs : List V} {ds : List D} (h : FzL K H O vs ds) : FzL K H O vs.dropLast ds.dropLast := by
  rw [List.dropLast_eq_take, List.dropLast_eq_take, h.length]; exact h.take _
theorem FzL.rep {vs : List V} {ds : List D} (h : FzL K H O vs ds) : ∀ k : Nat, FzL K H O (List.replicate k vs).flatten (List.replicate k ds).flatten
  | 0 => .nil
  | k + 1 => by simp only [List.replicate_succ, List.flatten_cons]; exact h.append (h.rep k)
theorem FzL.ints : ∀ {vs : List V} {ds : List D} {ns : List Int}, FzL K H O vs ds → intsOf? ds = some ns → vs = ns.map V.int
  | _, _, _, .nil, h => by simp [intsOf?] at h; subst h; rfl
  | _, _, ns, .cons (d := d) a b, h => by
    cases d with
    | int i =>
      cases a
      simp only [intsOf?, Option.map_eq_some_iff] at h
      obtain ⟨ms, h1, rfl⟩ := h
      rw [b.ints h1]; rfl
    | _ => simp [intsOf?] at h
theorem FzL.bools : ∀ {vs : List V} {ds : List D} {ns : List Bool}, FzL K H O vs ds → boolsOf? ds = some ns → vs = ns.map V.bl
  | _, _, _, .nil, h => by simp [boolsOf?] at h; subst h; rfl
  | _, _, ns, .cons (d := d) a b, h => by
    cases d with
    | bool i =>
      cases a
      simp only [boolsOf?, Option.map_eq_some_iff] at h
      obtain ⟨ms, h1, rfl⟩ := h
      rw [b.bools h1]; rfl
    | _ => simp [boolsOf?] at h
theorem FzL.of_ints : ∀ (ns : List Int), FzL K H O (ns.map V.int) (ns.map PyData.int)
  | [] => .nil
  | i :: r => .cons (.int i) (FzL.of_ints r)

/-- a list or dict at a, whatever refers to it; its things are none of O's -/
def Cell (K : PySem.W.Frag) (H : Hp) (O : Addr → Prop) (a : Addr) : D → Prop
  | .list ds => ∃ vs, H a = some (.lst vs) ∧ vs.length ≤ sizeLine ∧ FzL K H O vs ds
  | .dict ds => ∃ kvs, H a = some (.dK kvs) ∧ kvs.length ≤ sizeLine ∧ FzK K H O kvs ds
  | _ => False
/-- a value that may be one's own -/
def Rp (K : PySem.W.Frag) (H : Hp) (O : Addr → Prop) (v : V) (d : D) : Prop := Fz K H O v d ∨ ∃ a, v = .ref a ∧ Cell K H O a d
theorem Cell.give {a : Addr} {d : D} (h : Cell K H O a d) (n : ¬ O a) : Fz K H O (.ref a) d := by
  cases d with
  | list ds => obtain ⟨vs, e, z, q⟩ := h; exact .lst n e z q
  | dict ds => obtain ⟨vs, e, z, q⟩ := h; exact .dic n e z q
  | _ => exact False.elim h
/-- a cell whose object stays -/
theorem Cell.step {a : Addr} {d : D} (h : Cell K H O a d) (s : Step H O H' O') (e : H' a = H a) : Cell K H' O' a d := by
  cases d with
  | list ds => obtain ⟨vs, q, z, x⟩ := h; exact ⟨vs, e.trans q, z, FzL.step s x⟩
  | dict ds => obtain ⟨vs, q, z, x⟩ := h; exact ⟨vs, e.trans q, z, FzK.step s x⟩
  | _ => exact False.elim h
theorem Cell.some {a : Addr} {d : D} (h : Cell K H O a d) : ∃ o, H a = some o := by
  cases d with
  | list ds => obtain ⟨vs, q, _⟩ := h; exact ⟨_, q⟩
  | dict ds => obtain ⟨vs, q, _⟩ := h; exact ⟨_, q⟩
  | _ => exact False.elim h

/-! ### data as the library's rules read it -/
mutual
theorem Fz.dp : ∀ {v : V} {d : D}, Fz K H O v d → d.hasDict = false → Dp K H v d
  | _, _, .non, _ => .non
  | _, _, .bl b, _ => .bl b
  | _, _, .int i, _ => .int i
  | _, _, .str x, _ => .str x
  | _, _, .lst _ e _ h, q => .lst (SqL.of e) (FzL.dp h (by simpa [PyData.hasDict] using q))
  | _, _, .tup _ e _ h, q => .tup e.sq (FzL.dp h (by simpa [PyData.hasDict] using q))
  | _, _, .tupK e _ _ _ _ h, q => .tup (sqT_any e) (FzL.dp h (by simpa [PyData.hasDict] using q))
  | _, _, .dic .., q => by simp [PyData.hasDict] at q
theorem FzL.dp : ∀ {vs : List V} {ds : List D}, FzL K H O vs ds → PyData.hasDictAll ds = false → DpAll K H vs ds
  | _, _, .nil, _ => .nil
  | _, _, .cons a b, q => by
    simp only [PyData.hasDictAll, Bool.or_eq_false_iff] at q
    exact .cons (Fz.dp a q.1) (FzL.dp b q.2)
end
theorem Rp.dp {v : V} {d : D} (h : Rp K H O v d) (q : d.hasDict = false) : Dp K H v d := by
  rcases h with h | ⟨a, rfl, h⟩
  · exact h.dp q
  · cases d with
    | list ds => obtain ⟨vs, e, _, x⟩ := h; exact .lst (SqL.of e) (FzL.dp x (by simpa [PyData.hasDict] using q))
    | dict ds => simp [PyData.hasDict] at q
    | _ => exact False.elim h
theorem noDict {d : D} (h : Shp d) : d.hasDict = false := PyData.hasDict_of_canLay d (SeqAt.canLay_of_shaped h)

/-- what stands behind a value of some form -/
theorem Rp.list {v : V} {ds : List D} (h : Rp K H O v (.list ds)) : ∃ a vs, v = .ref a ∧ H a = some (.lst vs) ∧ vs.length ≤ sizeLine ∧ FzL K H O vs ds := by
  rcases h with h | ⟨a, rfl, vs, e, z, x⟩
  · cases h with | lst _ e z x => exact ⟨_, _, rfl, e, z, x⟩
  · exact ⟨_, _, rfl, e, z, x⟩
theorem Rp.tup {v : V} {ds : List D} (h : Rp K H O v (.tuple ds)) : ∃ a vs, v = .ref a ∧ SqT K H a vs ∧ vs.length ≤ sizeLine ∧ FzL K H O vs ds := by
  rcases h with h | ⟨a, rfl, h⟩
  · cases h with
    | tup n e z x => exact ⟨_, _, rfl, e.sq, z, x⟩
    | tupK e _ _ _ z x => exact ⟨_, _, rfl, sqT_any e, z, x⟩
  · exact False.elim h
/-- a tuple, and that it carries no names of its own -/
def TyT (K : PySem.W.Frag) (H : Hp) (a : Addr) : Prop := (∃ vs, Tp H a vs) ∨ ∃ o : Obj, K.lookup a = some o ∧ o.cls = .type "tuple" ∧ Bare o
theorem Rp.tupT {v : V} {ds : List D} (h : Rp K H O v (.tuple ds)) : ∃ a vs, v = .ref a ∧ TyT K H a ∧ SqT K H a vs ∧ vs.length ≤ sizeLine ∧ FzL K H O vs ds := by
  rcases h with h | ⟨a, rfl, h⟩
  · cases h with
    | tup n e z x => exact ⟨_, _, rfl, .inl ⟨_, e⟩, e.sq, z, x⟩
    | tupK e k c d z x => exact ⟨_, _, rfl, .inr ⟨_, k, c, d⟩, sqT_any e, z, x⟩
  · exact False.elim h
theorem Rp.dict {v : V} {ds : List (D × D)} (h : Rp K H O v (.dict ds)) : ∃ a vs, v = .ref a ∧ H a = some (.dK vs) ∧ vs.length ≤ sizeLine ∧ FzK K H O vs ds := by
  rcases h with h | ⟨a, rfl, vs, e, z, x⟩
  · cases h with | dic _ e z x => exact ⟨_, _, rfl, e, z, x⟩
  · exact ⟨_, _, rfl, e, z, x⟩
theorem Rp.int {v : V} {i : Int} (h : Rp K H O v (.int i)) : v = .int i := by
  rcases h with h | ⟨a, rfl, h⟩
  · cases h; rfl
  · exact False.elim h
theorem Rp.bool {v : V} {b : Bool} (h : Rp K H O v (.bool b)) : v = .bl b := by
  rcases h with h | ⟨a, rfl, h⟩
  · cases h; rfl
  · exact False.elim h
theorem Rp.str {v : V} {x : Str} (h : Rp K H O v (.str x)) : v = .str x := by
  rcases h with h | ⟨a, rfl, h⟩
  · cases h; rfl
  · exact False.elim h
theorem Rp.none {v : V} (h : Rp K H O v .none) : v = .non := by
  rcases h with h | ⟨a, rfl, h⟩
  · cases h; rfl
  · exact False.elim h
end
end Ev
/-! EvState: the frame's data and the heap, held together. -/
namespace Ev
open PySem PySem.Spec PyProof.Rows L2

abbrev Sg := List (Option V)
/-- the source of draws: its dict at p, its cells at c -/
def SrcOk (H : Hp) (p c : Addr) : Prop := p ≠ c ∧ ∃ (cells : List Int) (left mixed turn : Int),
  H p = some (.dK [(.inr "cells", .ref c), (.inr "left", .int left), (.inr "mixed", .int mixed), (.inr "turn", .int turn)]) ∧
  H c = some (.lst (cells.map V.int)) ∧ cells.length ≤ sizeLine ∧ (∀ z ∈ cells, 0 ≤ z) ∧ 0 ≤ left ∧ 0 ≤ mixed ∧ mixed < 2147483647 ∧ 0 ≤ turn
theorem SrcOk.same {H H' : Hp} {p c : Addr} (h : SrcOk H p c) (e1 : H' p = H p) (e2 : H' c = H c) : SrcOk H' p c := by
  obtain ⟨n, cs, l, m, t, q1, q2, r⟩ := h
  exact ⟨n, cs, l, m, t, e1.trans q1, e2.trans q2, r⟩
theorem SrcOk.at1 {H : Hp} {p c : Addr} (h : SrcOk H p c) : ∃ o, H p = some o := let ⟨_, _, _, _, _, q, _⟩ := h; ⟨_, q⟩
theorem SrcOk.at2 {H : Hp} {p c : Addr} (h : SrcOk H p c) : ∃ o, H c = some o := let ⟨_, _, _, _, _, _, q, _⟩ := h; ⟨_, q⟩

/-- what is fixed while a def runs: the heap at its entry, what is not its own there, what it may change there -/
structure Cc where
  K : PySem.W.Frag
  Hb : Hp
  O0 : Addr → Prop
  so : Option (Addr × Addr)
def Cc.S (C : Cc) (a : Addr) : Prop := ∃ p c, C.so = some (p, c) ∧ (a = p ∨ a = c)

def SlOk (C : Cc) (so : Option (Addr × Addr)) (H : Hp) (O : Addr → Prop) (v : Option (Option V)) : Sl → Prop
  | .no => True
  | .fz d => ∃ x, v = some (some x) ∧ Fz C.K H O x d
  | .ow d => ∃ a, v = some (some (.ref a)) ∧ O a ∧ C.Hb a = none ∧ Cell C.K H O a d
  | .src => ∃ p c, so = some (p, c) ∧ v = some (some (.ref p))
def isOwn : Sl → Bool
  | .ow _ => true
  | _ => false
/-- the slot i owns what stands at a -/
def OwnAt (σ : Sg) (env : Ev) (i : Nat) (a : Addr) : Prop := isOwn (env.getD i .no) = true ∧ σ[i]? = some (some (.ref a))

structure Ok8 (C : Cc) (so : Option (Addr × Addr)) (pn : List (Addr × HO)) (σ : Sg) (H : Hp) (env : Ev) (O : Addr → Prop) : Prop where
  len : env.length = σ.length
  slot : ∀ i, SlOk C so H O (σ[i]?) (env.getD i .no)
  inj : ∀ i j a, OwnAt σ env i a → OwnAt σ env j a → i = j
  fr : ∀ a o, C.Hb a = some o → ¬ C.S a → H a = some o
  dom : ∀ a, O a → ∃ o, H a = some o
  sub : ∀ a, C.O0 a → O a
  o0 : ∀ a, C.O0 a → ∃ o, C.Hb a = some o
  src : ∀ p c, so = some (p, c) → SrcOk H p c ∧ O p ∧ O c ∧ ((C.S p ∧ C.S c) ∨ (C.Hb p = none ∧ C.Hb c = none)) ∧ ∀ i a, OwnAt σ env i a → a ≠ p ∧ a ≠ c
  s0 : ∀ a, C.S a → C.O0 a
  pin : ∀ q ∈ pn, H q.1 = some q.2 ∧ O q.1 ∧ C.Hb q.1 = none ∧ (∀ i, ¬ OwnAt σ env i q.1) ∧ ∀ p c, so = some (p, c) → q.1 ≠ p ∧ q.1 ≠ c

def VlOk (C : Cc) (so : Option (Addr × Addr)) (pn : List (Addr × HO)) (H : Hp) (O : Addr → Prop) (σ : Sg) (env : Ev) (vl : Vl) (v : V) : Prop :=
  match vl with
  | .fz d => Fz C.K H O v d
  | .fr d => ∃ a, v = .ref a ∧ O a ∧ C.Hb a = none ∧ Cell C.K H O a d ∧ (∀ i, ¬ OwnAt σ env i a) ∧ (∀ p c, so = some (p, c) → a ≠ p ∧ a ≠ c) ∧ ∀ q ∈ pn, q.1 ≠ a
  | .bw i => σ[i]? = some (some v)
  | .sr => ∃ p c, so = some (p, c) ∧ v = .ref p
/-- .. in a form that lasts -/
def Held (C : Cc) (so : Option (Addr × Addr)) (H : Hp) (O : Addr → Prop) (σ : Sg) (vl : Vl) (v : V) : Prop :=
  match vl with
  | .fz d => Fz C.K H O v d
  | .fr d => Fz C.K H O v d
  | .bw i => σ[i]? = some (some v)
  | .sr => ∃ p c, so = some (p, c) ∧ v = .ref p

section
variable {C : Cc} {so : Option (Addr × Addr)} {pn : List (Addr × HO)} {σ : Sg} {H H' : Hp} {env env' : Ev} {O O' : Addr → Prop}

/-- the heap moves on, the frame stays -/
theorem Ok8.move (k : Ok8 C so pn σ H env O) (s : Step H O H' O') (ho : ∀ i a, OwnAt σ env i a → O' a ∧ H' a = H a) (hf : ∀ a o, C.Hb a = some o → ¬ C.S a → H' a = some o)
    (hd : ∀ a, O' a → ∃ o, H' a = some o) (h0 : ∀ a, C.O0 a → O' a) (hs : ∀ p c, so = some (p, c) → SrcOk H' p c ∧ O' p ∧ O' c) (hp : ∀ q ∈ pn, H' q.1 = some q.2 ∧ O' q.1) : Ok8 C so pn σ H' env O' := by
  refine ⟨k.len, fun i => ?_, k.inj, hf, hd, h0, k.o0, fun p c e => ?_, k.s0, fun q hq => ?_⟩
  · have q := k.slot i
    have own : ∀ a, isOwn (env.getD i .no) = true → σ[i]? = some (some (.ref a)) → O' a ∧ H' a = H a := fun a h1 h2 => ho i a ⟨h1, h2⟩
    generalize env.getD i .no = sl at q own
    cases sl with
    | no => trivial
    | fz d => obtain ⟨x, e, q⟩ := q; exact ⟨x, e, q.step s⟩
    | ow d => obtain ⟨a, e, _, n, q⟩ := q; obtain ⟨y, z⟩ := own a rfl e; exact ⟨a, e, y, n, q.step s z⟩
    | src => exact q
  · obtain ⟨_, _, _, b, q⟩ := k.src p c e
    obtain ⟨x, y, z⟩ := hs p c e
    exact ⟨x, y, z, b, q⟩
  · obtain ⟨_, _, x⟩ := k.pin q hq
    obtain ⟨y, z⟩ := hp q hq
    exact ⟨y, z, x⟩
theorem Ok8.ownSome (k : Ok8 C so pn σ H env O) {i : Nat} {a : Addr} (h : OwnAt σ env i a) : O a ∧ C.Hb a = none ∧ ∃ o, H a = some o := by
  obtain ⟨h1, h2⟩ := h
  have q := k.slot i
  generalize env.getD i .no = sl at q h1
  cases sl with
  | ow d => obtain ⟨b, e, x, n, q⟩ := q; rw [h2] at e; cases e; exact ⟨x, n, q.some⟩
  | _ => cases h1
theorem ne_new {p a : Addr} {o : HO} (n : H p = none) (e : H a = some o) : a ≠ p := fun z => by subst z; rw [n] at e; cases e
theorem Ok8.hbnew (k : Ok8 C so pn σ H env O) {p : Addr} (n : H p = none) : C.Hb p = none ∧ ¬ O p := by
  have no : ¬ O p := fun z => by obtain ⟨o, e⟩ := k.dom p z; rw [n] at e; cases e
  refine ⟨?_, no⟩
  cases e : C.Hb p with
  | none => rfl
  | some o =>
    have hs : ¬ C.S p := fun hs => no (k.sub p (k.s0 p hs))
    have := k.fr p o e hs
    rw [n] at this; cases this
theorem upd_old {p a : Addr} {o u : HO} (n : H p = none) (e : H a = some o) : upd H p u a = some o := (upd_ne (ne_new n e)).trans e
/-- a new thing, nobody's own -/
theorem Ok8.alloc (k : Ok8 C so pn σ H env O) {p : Addr} {u : HO} (n : H p = none) : Ok8 C so pn σ (upd H p u) env O :=
  k.move ⟨fun a o e _ => upd_old n e, fun a z => .inl z⟩ (fun i a h => by obtain ⟨x, _, o, e⟩ := k.ownSome h; exact ⟨x, upd_ne (ne_new n e)⟩) (fun a o e hs => upd_old n (k.fr a o e hs))
    (fun a z => by obtain ⟨o, e⟩ := k.dom a z; exact ⟨o, upd_old n e⟩) k.sub (fun p' c e => by
      obtain ⟨x, y, z, _⟩ := k.src p' c e
      exact ⟨x.same (by obtain ⟨o, e⟩ := x.at1; exact upd_ne (ne_new n e)) (by obtain ⟨o, e⟩ := x.at2; exact upd_ne (ne_new n e)), y, z⟩) fun q hq => by
      obtain ⟨x, y, _⟩ := k.pin q hq
      exact ⟨upd_old n x, y⟩
theorem step_alloc {p : Addr} {u : HO} (n : H p = none) : Step H O (upd H p u) O := ⟨fun a o e _ => upd_old n e, fun a z => .inl z⟩
/-- a new list or dict, to be one's own -/
theorem step_own {p : Addr} {u : HO} (n : H p = none) : Step H O (upd H p u) (fun a => O a ∨ a = p) := ⟨fun a o e _ => upd_old n e, fun a z => by
  rcases z with z | rfl
  · exact .inl z
  · exact .inr n⟩
theorem Ok8.allocO (k : Ok8 C so pn σ H env O) {p : Addr} {u : HO} (n : H p = none) : Ok8 C so pn σ (upd H p u) env (fun a => O a ∨ a = p) :=
  k.move (step_own n) (fun i a h => by obtain ⟨x, _, o, e⟩ := k.ownSome h; exact ⟨.inl x, upd_ne (ne_new n e)⟩) (fun a o e hs => upd_old n (k.fr a o e hs))
    (fun a z => by
      rcases z with z | rfl
      · obtain ⟨o, e⟩ := k.dom a z; exact ⟨o, upd_old n e⟩
      · exact ⟨_, upd_same⟩) (fun a z => .inl (k.sub a z)) (fun p' c e => by
      obtain ⟨x, y, z, _⟩ := k.src p' c e
      exact ⟨x.same (by obtain ⟨o, e⟩ := x.at1; exact upd_ne (ne_new n e)) (by obtain ⟨o, e⟩ := x.at2; exact upd_ne (ne_new n e)), .inl y, .inl z⟩) fun q hq => by
      obtain ⟨x, y, _⟩ := k.pin q hq
      exact ⟨upd_old n x, .inl y⟩
/-- what is let go: no more one's own -/
theorem Ok8.letGo (k : Ok8 C so pn σ H env O) {p : Addr} (hn : ∀ i, ¬ OwnAt σ env i p) (h0 : ¬ C.O0 p) (hs : ∀ p' c, so = some (p', c) → p ≠ p' ∧ p ≠ c) (hp : ∀ q ∈ pn, q.1 ≠ p) : Ok8 C so pn σ H env (fun a => O a ∧ a ≠ p) :=
  k.move (Step.less fun a z => z.1) (fun i a h => ⟨⟨(k.ownSome h).1, fun e => hn i (e ▸ h)⟩, rfl⟩) k.fr (fun a z => k.dom a z.1) (fun a z => ⟨k.sub a z, fun e => h0 (e ▸ z)⟩) (fun p' c e => by
    obtain ⟨x, y, z, _⟩ := k.src p' c e
    obtain ⟨q1, q2⟩ := hs p' c e
    exact ⟨x, ⟨y, q1.symm⟩, z, q2.symm⟩) fun q hq => by
      obtain ⟨x, y, _⟩ := k.pin q hq
      exact ⟨x, y, hp q hq⟩
theorem Ok8.notO0 (k : Ok8 C so pn σ H env O) {p : Addr} (n : C.Hb p = none) : ¬ C.O0 p := fun z => by obtain ⟨o, e⟩ := k.o0 p z; rw [n] at e; cases e

/-! ### slots -/
theorem getD_set {i j : Nat} {s : Sl} : (env.set i s).getD j .no = if i = j ∧ i < env.length then s else env.getD j .no := by
  simp only [List.getD_eq_getElem?_getD, List.getElem?_set]
  by_cases h : i = j
  · subst h
    by_cases h2 : i < env.length
    · simp [h2]
    · simp [h2]
  · simp [h]
/-- a slot's word is changed, its value stays -/
theorem Ok8.word (k : Ok8 C so pn σ H env O) {i : Nat} {s : Sl} (hs : SlOk C so H O (σ[i]?) s) (ho : isOwn s = true → isOwn (env.getD i .no) = true) : Ok8 C so pn σ H (env.set i s) O := by
  have ow : ∀ j a, OwnAt σ (env.set i s) j a → OwnAt σ env j a := fun j a ⟨h1, h2⟩ => by
    rw [getD_set] at h1
    split at h1
    · rename_i z; obtain ⟨rfl, _⟩ := z; exact ⟨ho h1, h2⟩
    · exact ⟨h1, h2⟩
  refine ⟨by simp [k.len], fun j => ?_, fun a b c x y => k.inj a b c (ow _ _ x) (ow _ _ y), k.fr, k.dom, k.sub, k.o0, fun p c e => ?_, k.s0, fun q hq => ?_⟩
  · rw [getD_set]
    split
    · rename_i z; obtain ⟨rfl, _⟩ := z; exact hs
    · exact k.slot j
  · obtain ⟨x, y, z, w, q⟩ := k.src p c e
    exact ⟨x, y, z, w, fun j a h => q j a (ow j a h)⟩
  · obtain ⟨x, y, z, w, r⟩ := k.pin q hq
    exact ⟨x, y, z, fun j h => w j (ow j _ h), r⟩
theorem Ok8.forget (k : Ok8 C so pn σ H env O) (i : Nat) : Ok8 C so pn σ H (env.set i .no) O := k.word trivial (fun h => by cases h)
/-- a slot takes a value -/
theorem Ok8.store (k : Ok8 C so pn σ H env O) {i : Nat} {x : V} {s : Sl} (hs : SlOk C so H O (some (some x)) s) (hi : i < env.length)
    (ho : isOwn s = true → ∀ a, x = .ref a → (∀ j, ¬ OwnAt σ env j a) ∧ (∀ p c, so = some (p, c) → a ≠ p ∧ a ≠ c) ∧ ∀ q ∈ pn, q.1 ≠ a) : Ok8 C so pn (σ.set i (some x)) H (env.set i s) O := by
  have hiσ : i < σ.length := by rw [← k.len]; exact hi
  have at_ : ∀ j, (σ.set i (some x))[j]? = if i = j then some (some x) else σ[j]? := fun j => by
    rw [List.getElem?_set]
    by_cases h : i = j
    · subst h; simp [hiσ]
    · simp [h]
  have ow : ∀ j a, OwnAt (σ.set i (some x)) (env.set i s) j a → (i = j ∧ isOwn s = true ∧ x = .ref a) ∨ (i ≠ j ∧ OwnAt σ env j a) := fun j a ⟨h1, h2⟩ => by
    rw [getD_set] at h1
    rw [at_] at h2
    by_cases h : i = j
    · subst h
      simp only [hi, and_self, if_true] at h1 h2
      simp only [Option.some.injEq] at h2
      exact .inl ⟨rfl, h1, h2⟩
    · simp only [h, false_and, if_false] at h1 h2
      exact .inr ⟨h, h1, h2⟩
  refine ⟨by simp [k.len], fun j => ?_, fun a b c y z => ?_, k.fr, k.dom, k.sub, k.o0, fun p c e => ?_, k.s0, fun q hq => ?_⟩
  · rw [getD_set, at_]
    by_cases h : i = j
    · subst h; simp only [hi, and_self, if_true]; exact hs
    · simp only [h, false_and, if_false]; exact k.slot j
  · rcases ow _ _ y with ⟨rfl, y1, y2⟩ | ⟨y0, y1⟩
    · rcases ow _ _ z with ⟨rfl, _, _⟩ | ⟨_, z1⟩
      · rfl
      · exact absurd z1 ((ho y1 c y2).1 b)
    · rcases ow _ _ z with ⟨rfl, z1, z2⟩ | ⟨_, z1⟩
      · exact absurd y1 ((ho z1 c z2).1 a)
      · exact k.inj a b c y1 z1
  · obtain ⟨x1, y, z, w, q⟩ := k.src p c e
    refine ⟨x1, y, z, w, fun j a h => ?_⟩
    rcases ow _ _ h with ⟨_, h1, h2⟩ | ⟨_, h1⟩
    · exact (ho h1 a h2).2.1 p c e
    · exact q j a h1
  · obtain ⟨x1, y, z, w, r⟩ := k.pin q hq
    refine ⟨x1, y, z, fun j h => ?_, r⟩
    rcases ow _ _ h with ⟨_, h1, h2⟩ | ⟨_, h1⟩
    · exact (ho h1 _ h2).2.2 q hq rfl
    · exact w j h1

/-! ### values -/
theorem Held.step {vl : Vl} {v : V} (h : Held C so H O σ vl v) (s : Step H O H' O') : Held C so H' O' σ vl v := by
  cases vl with
  | fz d => exact Fz.step s h
  | fr d => exact Fz.step s h
  | bw i => exact h
  | sr => exact h
/-- a value that waits -/
theorem VlOk.settle {vl : Vl} {v : V} (k : Ok8 C so pn σ H env O) (h : VlOk C so pn H O σ env vl v) : ∃ O', Ok8 C so pn σ H env O' ∧ Step H O H O' ∧ Held C so H O' σ vl v := by
  cases vl with
  | fz d => exact ⟨O, k, .refl, h⟩
  | fr d =>
    obtain ⟨a, rfl, x, n, q, hn, hs, hp⟩ := h
    refine ⟨fun b => O b ∧ b ≠ a, k.letGo hn (k.notO0 n) hs hp, Step.less fun b z => z.1, ?_⟩
    exact (q.step (H' := H) (O' := fun b => O b ∧ b ≠ a) (Step.less fun b z => z.1) rfl).give fun z => z.2 rfl
  | bw i => exact ⟨O, k, .refl, h⟩
  | sr => exact ⟨O, k, .refl, h⟩
theorem Held.rd {vl : Vl} {v : V} {d : D} (k : Ok8 C so pn σ H env O) (h : Held C so H O σ vl v) (e : vl.rd env = some d) : Rp C.K H O v d := by
  cases vl with
  | fz d' => cases e; exact .inl h
  | fr d' => cases e; exact .inl h
  | bw i =>
    have h : σ[i]? = some (some v) := h
    have q := k.slot i
    simp only [Vl.rd] at e
    generalize env.getD i .no = sl at q e
    cases sl with
    | fz d' => cases e; obtain ⟨x, e1, q⟩ := q; rw [h] at e1; cases e1; exact .inl q
    | ow d' => cases e; obtain ⟨a, e1, _, _, q⟩ := q; rw [h] at e1; cases e1; exact .inr ⟨a, rfl, q⟩
    | no => cases e
    | src => cases e
  | sr => cases e
theorem VlOk.rd {vl : Vl} {v : V} {d : D} (k : Ok8 C so pn σ H env O) (h : VlOk C so pn H O σ env vl v) (e : vl.rd env = some d) : Rp C.K H O v d := by
  cases vl with
  | fz d' => cases e; exact .inl h
  | fr d' => cases e; obtain ⟨a, e, _, _, q, _⟩ := h; exact .inr ⟨a, e, q⟩
  | bw i => exact Held.rd (vl := .bw i) k h e
  | sr => cases e
theorem VlOk.give {vl : Vl} {v : V} {j : D → Ev → Prop} (k : Ok8 C so pn σ H env O) (h : VlOk C so pn H O σ env vl v) (g : vl.give env j) : ∃ d env' O', j d env' ∧ Ok8 C so pn σ H env' O' ∧ Step H O H O' ∧ Fz C.K H O' v d := by
  cases vl with
  | fz d => exact ⟨d, env, O, g, k, .refl, h⟩
  | fr d =>
    obtain ⟨O', k', s, q⟩ := h.settle k
    exact ⟨d, env, O', g, k', s, q⟩
  | bw i =>
    have h : σ[i]? = some (some v) := h
    simp only [Vl.give] at g
    have q := k.slot i
    cases e : env.getD i .no with
    | fz d => simp only [e] at g q; obtain ⟨x, e1, q⟩ := q; rw [h] at e1; cases e1; exact ⟨d, env, O, g, k, .refl, q⟩
    | ow d =>
      simp only [e] at g q
      obtain ⟨a, e1, x, n, q⟩ := q
      have e2 := e1
      rw [h] at e1; cases e1
      have own : OwnAt σ env i a := ⟨by rw [e]; rfl, e2⟩
      have qz : Fz C.K H (fun b => O b ∧ b ≠ a) (.ref a) d := (q.step (H' := H) (O' := fun b => O b ∧ b ≠ a) (Step.less fun b z => z.1) rfl).give fun z => z.2 rfl
      refine ⟨d, env.set i (.fz d), fun b => O b ∧ b ≠ a, g, ?_, Step.less fun b z => z.1, qz⟩
      -- first the word, then the letting go
      have k1 : Ok8 C so pn σ H (env.set i .no) O := k.forget i
      have hs : ∀ p c, so = some (p, c) → a ≠ p ∧ a ≠ c := fun p c e => (k.src p c e).2.2.2.2 i a own
      have hno : ∀ j, ¬ OwnAt σ (env.set i .no) j a := fun j ⟨h1, h2⟩ => by
        rw [getD_set] at h1
        split at h1
        · cases h1
        · rename_i z
          have : i = j := k.inj i j a own ⟨h1, h2⟩
          subst this
          by_cases hl : i < env.length
          · exact z ⟨rfl, hl⟩
          · rw [List.getD_eq_getElem?_getD, List.getElem?_eq_none (by omega)] at h1; cases h1
      have k2 := k1.letGo hno (k.notO0 n) hs fun q hq e => (k.pin q hq).2.2.2.1 i (e ▸ own)
      have k3 := k2.word (i := i) (s := .fz d) ⟨_, e2, qz⟩ (fun h => by cases h)
      rw [List.set_set] at k3
      exact k3
    | no => simp only [e] at g
    | src => simp only [e] at g
  | sr => exact False.elim g

/-! ### results -/
inductive Res (K : PySem.W.Frag) (H : Hp) (O : Addr → Prop) : Bool → D → V → Hp → Prop
  | old {d : D} {v : V} : Fz K H O v d → Res K H O false d v H
  | tup {p : Addr} {o : Obj} {vs : List V} {ds : List D} : H p = none → Bare o → vs.length ≤ sizeLine → FzL K H O vs ds → Res K H O false (.tuple ds) (.ref p) (upd H p (.frz o (.tup vs)))
  | lst {p : Addr} {vs : List V} {ds : List D} : H p = none → vs.length ≤ sizeLine → FzL K H O vs ds → Res K H O true (.list ds) (.ref p) (upd H p (.lst vs))
  | dic {p : Addr} {vs : List (L2.Key × V)} {ds : List (D × D)} : H p = none → vs.length ≤ sizeLine → FzK K H O vs ds → Res K H O true (.dict ds) (.ref p) (upd H p (.dK vs))
theorem Res.ok {fr : Bool} {d : D} {v : V} (k : Ok8 C so pn σ H env O) (h : Res C.K H O fr d v H') : ∃ O', Ok8 C so pn σ H' env O' ∧ VlOk C so pn H' O' σ env (rets fr d) v ∧ Step H O H' O' := by
  cases h with
  | old q => exact ⟨O, k, q, .refl⟩
  | tup n hd z q =>
    rename_i p o vs ds
    exact ⟨O, k.alloc n, .tup (k.hbnew n).2 ⟨o, upd_same, hd⟩ z (FzL.step (step_alloc n) q), step_alloc n⟩
  | lst n z q =>
    rename_i p vs ds
    refine ⟨_, k.allocO n, ⟨p, rfl, .inr rfl, (k.hbnew n).1, ⟨vs, upd_same, z, FzL.step (step_own n) q⟩, fun i h => ?_, fun p' c e => ?_, fun q' hq' => ?_⟩, step_own n⟩
    · obtain ⟨_, _, o, e⟩ := k.ownSome h; rw [n] at e; cases e
    · obtain ⟨x, _⟩ := k.src p' c e
      obtain ⟨o, e1⟩ := x.at1
      obtain ⟨o2, e2⟩ := x.at2
      exact ⟨(ne_new n e1).symm, (ne_new n e2).symm⟩
    · obtain ⟨e1, _⟩ := k.pin q' hq'
      exact fun e => ne_new n e1 e
  | dic n z q =>
    rename_i p vs ds
    refine ⟨_, k.allocO n, ⟨p, rfl, .inr rfl, (k.hbnew n).1, ⟨vs, upd_same, z, FzK.step (step_own n) q⟩, fun i h => ?_, fun p' c e => ?_, fun q' hq' => ?_⟩, step_own n⟩
    · obtain ⟨_, _, o, e⟩ := k.ownSome h; rw [n] at e; cases e
    · obtain ⟨x, _⟩ := k.src p' c e
      obtain ⟨o, e1⟩ := x.at1
      obtain ⟨o2, e2⟩ := x.at2
      exact ⟨(ne_new n e1).symm, (ne_new n e2).symm⟩
    · obtain ⟨e1, _⟩ := k.pin q' hq'
      exact fun e => ne_new n e1 e

/-- one's own list in slot i is changed -/
theorem Ok8.write (k : Ok8 C so pn σ H env O) {i : Nat} {a : Addr} {u : HO} {d : D} (own : OwnAt σ env i a) (hc : Cell C.K (upd H a u) O a d) : Ok8 C so pn σ (upd H a u) (env.set i (.ow d)) O := by
  obtain ⟨oa, na, o, ea⟩ := k.ownSome own
  have st : Step H O (upd H a u) O := ⟨fun b o e n => by
    by_cases hb : b = a
    · subst hb; exact absurd oa n
    · rw [upd_ne hb]; exact e, fun b z => .inl z⟩
  have hi : i < env.length := by
    by_cases hl : i < env.length
    · exact hl
    · have := own.1
      rw [List.getD_eq_getElem?_getD, List.getElem?_eq_none (by omega)] at this; cases this
  have k1 : Ok8 C so pn σ (upd H a u) (env.set i .no) O := (k.forget i).move st (fun j b h => by
    have hb : b ≠ a := fun e => by
      subst e
      obtain ⟨h1, h2⟩ := h
      rw [getD_set] at h1
      split at h1
      · cases h1
      · rename_i z
        exact z ⟨k.inj i j _ own ⟨h1, h2⟩, hi⟩
    exact ⟨((k.forget i).ownSome h).1, upd_ne hb⟩) (fun b o e hs => by
      have hb : b ≠ a := fun z => by subst z; rw [na] at e; cases e
      rw [upd_ne hb]; exact k.fr b o e hs) (fun b z => by
      by_cases hb : b = a
      · subst hb; exact ⟨_, upd_same⟩
      · rw [upd_ne hb]; exact k.dom b z) k.sub (fun p c e => by
      obtain ⟨x, y, z, _, q⟩ := k.src p c e
      obtain ⟨q1, q2⟩ := q i a own
      exact ⟨x.same (upd_ne q1.symm) (upd_ne q2.symm), y, z⟩) fun q hq => by
      obtain ⟨x, y, _, z, _⟩ := k.pin q hq
      exact ⟨(upd_ne fun (e : q.1 = a) => z i (e ▸ own)).trans x, y⟩
  have hno : ∀ j, ¬ OwnAt σ (env.set i .no) j a := fun j ⟨h1, h2⟩ => by
    rw [getD_set] at h1
    split at h1
    · cases h1
    · rename_i z
      exact z ⟨k.inj i j _ own ⟨h1, h2⟩, hi⟩
  -- the slot takes the same value again
  have hσ : σ.set i (some (.ref a)) = σ := by
    apply List.ext_getElem?
    intro j
    rw [List.getElem?_set]
    by_cases h : i = j
    · subst h
      have : i < σ.length := by rw [← k.len]; exact hi
      rw [if_pos rfl, if_pos this]
      exact own.2.symm
    · simp [h]
  have k2 := k1.store (i := i) (x := .ref a) (s := .ow d) ⟨a, rfl, oa, na, hc⟩ (by simpa using hi) (fun _ b e => by
    cases e
    exact ⟨hno, fun p c e => (k.src p c e).2.2.2.2 i a own, fun q hq e => (k.pin q hq).2.2.2.1 i (e ▸ own)⟩)
  rw [hσ, List.set_set] at k2
  exact k2
theorem step_write {a : Addr} {u : HO} (oa : O a) : Step H O (upd H a u) O := ⟨fun b o e n => by
    by_cases hb : b = a
    · subst hb; exact absurd oa n
    · rw [upd_ne hb]; exact e, fun b z => .inl z⟩
end
end Ev
/-! EvFrz: rules that make tuples, each with its object as it stands. -/
namespace Ev
open PySem PySem.Spec PyProof.Rows L2
section
variable {X : Cx} {es : List Expr} {pos : Pos} {t : TA}
/-- the object of a new tuple -/
abbrev tob (us : List Value) : Obj := { cls := .type "tuple", data := .seq us.toArray }
theorem tob_ok {P : Program} {w : World} {H : Hp} {h : Heap} {a : Addr} {xs : List V} {us : List Value} (z : xs.length ≤ sizeLine) (r : Vals xs us) (e : h.get? a = some (tob us)) : ObjOk P w H h a (.frz (tob us) (.tup xs)) :=
  ⟨e, z, us, r, _, e, rfl, _, rfl⟩
def tTupF (t : TA) : TE := fun σ H Q => t σ H fun xs H1 => xs.length ≤ sizeLine ∧ ∀ (p : Addr) (o : Obj), H1 p = none → Bare o → Q (.ref p) (upd H1 p (.frz o (.tup xs)))
theorem pe_tupF {x1} (h : PA X es t) : PE X (.Tuple es x1 pos) (tTupF t) := by
  refine ⟨fun pins s σ H Q I hq => wpAny_Tuple_spliced (thn (h.run pos pins s σ H _ I hq) fun us s1 ⟨xs, H1, I1, r, z, q⟩ => ⟨by rw [← r.length]; exact z, ?_⟩)⟩
  have fresh : H1 s1.heap.objs.size = none := I1.hok.fresh (Nat.le_refl _)
  exact ⟨.ref s1.heap.objs.size, _, I1.laid (t' := s1.toks) (o := .frz (tob us) (.tup xs)) (fun b u e => Heap.get?_push_of_some _ e) (Nat.le_refl _) (tob_ok z r (Heap.get?_push_size _ rfl)), rfl, q _ (tob us) fresh ⟨rfl, rfl⟩⟩
def rTupF (K : PySem.W.Frag) : List V → Hp → VK → Prop := fun xs H Q => ∃ p ys, xs = [.ref p] ∧ ((SqL K H p ys ∧ ∀ (l : Addr) (o : Obj), H l = none → Bare o → Q (.ref l) (upd H l (.frz o (.tup ys)))) ∨ (SqT K H p ys ∧ Q (.ref p) H))
theorem call_tupleF : CallR X (.type "tuple") (rTupF X.K) := by
  intro pins s σ H xs us Q I r h
  obtain ⟨p, ys, rfl, ⟨hq, q⟩ | ⟨hq, q⟩⟩ := h
  · obtain ⟨u, rfl, rx⟩ := vals1 r
    cases rx
    obtain ⟨its, r', pl, hz⟩ := I.list hq
    have hlen := r'.length
    refine call_tuple_list pl.isList (fun h' kp => ?_) (by rw [List.size_toArray]; omega)
    have I1 : Inv X pins σ H { s with heap := h' } := I.kept (t' := s.toks) kp
    exact ⟨.ref h'.objs.size, _, I1.laid (t' := s.toks) (o := .frz (tob its) (.tup ys)) (fun b o e => Heap.get?_push_of_some _ e) (Nat.le_refl _) (tob_ok hz r' (Heap.get?_push_size _ rfl)), rfl, q _ (tob its) (I1.hok.fresh (Nat.le_refl _)) ⟨rfl, rfl⟩⟩
  · obtain ⟨u, rfl, rx⟩ := vals1 r
    cases rx
    obtain ⟨its, r', pl, hz⟩ := I.tuple hq
    exact call_tuple_same pl ⟨.ref p, H, I, rfl, q⟩
/-- t + u -/
def rCatF (K : PySem.W.Frag) : R2 := fun x y H Q => ∃ a b xs ys, x = .ref a ∧ y = .ref b ∧ SqT K H a xs ∧ SqT K H b ys ∧ xs.length + ys.length ≤ sizeLine ∧
  (xs = [] → Q (.ref b) H) ∧ (xs ≠ [] → ys = [] → Q (.ref a) H) ∧ (xs ≠ [] → ys ≠ [] → ∀ (p : Addr) (o : Obj), H p = none → Bare o → Q (.ref p) (upd H p (.frz o (.tup (xs ++ ys)))))
theorem op_catF : OpR X (binaryOp .Add) (rCatF X.K) := by
  intro pins s σ H x y v u Q I rx ry h
  obtain ⟨a, b, xs, ys, rfl, rfl, ha, hb, hz, q0, q1, q2⟩ := h
  by_cases hxy : xs = [] ∨ ys = []
  · refine op_catA pins s σ H _ _ v u Q I rx ry ⟨a, b, xs, ys, rfl, rfl, ha, hb, hz, q0, q1, fun h1 h2 => ?_⟩
    rcases hxy with h | h
    · exact absurd h h1
    · exact absurd h h2
  · have hx : xs ≠ [] := fun e => hxy (.inl e)
    have hy : ys ≠ [] := fun e => hxy (.inr e)
    cases rx
    cases ry
    obtain ⟨its, r1, p1, _⟩ := I.tuple ha
    obtain ⟨its2, r2, p2, _⟩ := I.tuple hb
    refine HT.cat_tup p1 p2 (fun z => hx (r1.nil_iff.mp z)) (fun z => absurd (r2.nil_iff.mp z) hy) (fun z => ?_) (by rw [← r1.length, ← r2.length]; exact hz)
    exact ⟨.ref s.heap.objs.size, _, I.laid (t' := s.toks) (o := .frz (tob (its ++ its2)) (.tup (xs ++ ys))) (fun b ob q => Heap.get?_push_of_some _ q) (Nat.le_refl _) (tob_ok (by rw [List.length_append]; exact hz) (r1.append r2) (Heap.get?_push_size _ rfl)), rfl, q2 hx hy _ _ (I.hok.fresh (Nat.le_refl _)) ⟨rfl, rfl⟩⟩
/-- t[lo:hi]: the whole of it is t itself -/
def rSlF (K : PySem.W.Frag) : V → Option Int → Option Int → Hp → VK → Prop := fun x lo hi H Q => ∃ a xs, x = .ref a ∧ SqT K H a xs ∧
  (HT.sIx xs.length 0 lo = 0 ∧ HT.sIx xs.length xs.length hi = xs.length → Q (.ref a) H) ∧ (¬ (HT.sIx xs.length 0 lo = 0 ∧ HT.sIx xs.length xs.length hi = xs.length) → ∀ (p : Addr) (o : Obj), H p = none → Bare o → Q (.ref p) (upd H p (.frz o (.tup (cutV xs lo hi)))))
theorem sl_tupF : SlR X (rSlF X.K) := by
  intro pins s σ H x v vl vu lo hi sl Q I rx hs pl pu h
  obtain ⟨a, xs, rfl, hx, q1, q2⟩ := h
  by_cases hw : HT.sIx xs.length 0 lo = 0 ∧ HT.sIx xs.length xs.length hi = xs.length
  · exact sl_tupA pins s σ H _ v vl vu lo hi sl Q I rx hs pl pu ⟨a, xs, rfl, hx, q1, fun h => absurd hw h⟩
  · cases rx
    obtain ⟨its, r, ht, hz⟩ := I.tuple hx
    have hlen : its.toArray.size = xs.length := by rw [List.size_toArray]; exact r.length.symm
    refine ⟨"tuple", _, PyProof.Rows.slot_tuple_getitem.lookup, ht.typeIs, ?_⟩
    refine HT.getItem_tuple_cut ht hs pl pu (by rw [hlen]; exact hw) ?_ (by rw [hlen]; exact hz)
    rw [hlen]
    have rr : Vals (cutV xs lo hi) ((its.drop (HT.sIx xs.length 0 lo)).take (HT.sIx xs.length xs.length hi - HT.sIx xs.length 0 lo)) := (r.drop _).take _
    exact ⟨.ref s.heap.objs.size, _, I.laid (t' := s.toks) (o := .frz (tob _) (.tup (cutV xs lo hi))) (fun b ob q => Heap.get?_push_of_some _ q) (Nat.le_refl _) (tob_ok (Nat.le_trans (cutV_length xs lo hi) hz) rr (Heap.get?_push_size _ rfl)), rfl, q2 hw _ _ (I.hok.fresh (Nat.le_refl _)) ⟨rfl, rfl⟩⟩
/-- a method of a tuple -/
def tBT (K : PySem.W.Frag) (r : V → List V → Hp → VK → Prop) (to : TE) (t : TA) : TE := fun σ H Q => to σ H fun x H1 => (∃ a, x = .ref a ∧ TyT K H1 a) ∧ t σ H1 fun vs H2 => r x vs H2 Q
theorem tyT_is {pins : List (Addr × Obj)} {σ : Sg} {H : Hp} {s : Shared} {a : Addr} (I : Inv X pins σ H s) (h : TyT X.K H a) : s.TypeIs (.ref a) "tuple" ∧ ∀ b, Value.ref a = .ref b → ∃ ob, s.heap.get? b = some ob ∧ ob.dict = none := by
  rcases h with ⟨vs, o, e, d⟩ | ⟨o, k, c, d⟩
  · obtain ⟨g, _, its, _, ob, g2, c, _⟩ := I.hok a _ e
    exact ⟨⟨ob, g2, c⟩, fun b q => by cases q; exact ⟨o, g, d.1⟩⟩
  · exact ⟨⟨o, I.kIn a o k, c⟩, fun b q => by cases q; exact ⟨o, I.kIn _ o k, d.1⟩⟩
/-- its object -/
theorem tyT_obj {pins : List (Addr × Obj)} {σ : Sg} {H : Hp} {s : Shared} {a : Addr} {zs : List V} (I : Inv X pins σ H s) (h : TyT X.K H a) (q : SqT X.K H a zs) : ∃ (its : List Value) (n : Nat), Vals zs its ∧ s.heap.get? a = some { cls := .type "tuple", dict := none, data := .seq its.toArray n, slots := #[] } ∧ zs.length ≤ sizeLine := by
  obtain ⟨its, r, ⟨⟨cls, dd, dt, sl⟩, ho, hc, n, hd⟩, hz⟩ := I.tuple q
  simp only at hc hd
  subst hc hd
  refine ⟨its, n, r, ?_, hz⟩
  rcases h with ⟨vs, o, e, d⟩ | ⟨o, k, c, d⟩
  · obtain ⟨g, _⟩ := I.hok a _ e
    rw [ho] at g
    cases g
    obtain ⟨d1, d2⟩ := d
    simp only at d1 d2
    subst d1 d2
    exact ho
  · have g := I.kIn a o k
    rw [ho] at g
    cases g
    obtain ⟨d1, d2⟩ := d
    simp only at d1 d2
    subst d1 d2
    exact ho
/-- xs.extend(ys), ys a list or a tuple -/
def rExtF (K : PySem.W.Frag) : V → List V → Hp → VK → Prop := fun x vs H Q => ∃ l b xs zs, x = .ref l ∧ vs = [.ref b] ∧ H l = some (.lst xs) ∧ (H b = some (.lst zs) ∨ (TyT K H b ∧ SqT K H b zs)) ∧ xs.length + zs.length ≤ sizeLine ∧ Q .non (upd H l (.lst (xs ++ zs)))
theorem mt_extF : MtR X "list.extend" (rExtF X.K) := by
  intro pins s σ H x vs v us Q I rx rv h
  obtain ⟨l, b, xs, zs, rfl, rfl, hH, hB, hz, q⟩ := h
  rcases hB with hB | ⟨ty, sq⟩
  · exact mt_extend pins s σ H _ _ v us Q I rx rv ⟨l, b, xs, zs, rfl, rfl, hH, hB, hz, q⟩
  · cases rx
    obtain ⟨u, rfl, ru⟩ := vals1 rv
    cases ru
    obtain ⟨z, its, n, r, hl, e⟩ := I.lstM hH
    obtain ⟨its2, n2, r2, e2, z2⟩ := tyT_obj I ty sq
    have hl2 := r2.length
    have hsz : its.toArray.size + its2.toArray.size ≤ sizeLine := by rw [List.size_toArray, List.size_toArray]; omega
    have hlong : ¬ (!its.toArray.isEmpty && Builtin.List.listTooLong (its.toArray.size + its2.toArray.size)) = true := by
      rw [notLongL hsz, Bool.and_false]
      exact Bool.false_ne_true
    refine call_meets PySem.F.slot_list_extend ⟨_, e, rfl⟩ PySem.F.entry_list_extend (PySem.F.args_list_extend_2 _ _)
      (AutoSeq1.list_extend_list_tuple_0 l its.toArray n b its2.toArray n2 hlong (by rw [List.size_toArray]; omega) (by omega)) ⟨e, e2, ?_⟩
    exact ⟨.non, _, I.lset (its' := its ++ its2) hH e (by simp) (r.append r2) (by rw [List.length_append]; exact hz), rfl, q⟩
theorem pe_bmT {o e : Expr} {name : Str} {id : String} {r : V → List V → Hp → VK → Prop} {to : TE} {apos cpos : Pos} (slot : Slot "tuple" name id) (hty : typeOf (.builtin id) = pure (.type "method_descriptor")) (hm : MtR X id r) (ho : PE X o to) (ha : PA X (e :: es) t)
    (hbase : attributeBase o name X.env (eval o X.env) = eval o X.env)
    (hfew : ((backTo cpos (starEach (e :: es) X.env)).all (fun x => !x.1) && (backToKw cpos (keywordEach [] X.env)).all (fun x => x.1.isSome)
      && decide ((e :: es).length + ([] : List Keyword).length + (if ([] : List Keyword).isEmpty then 0 else 1) < 30)) = true)
    (hline : (apos.endLine == cpos.line) = true) (hs : starEach (e :: es) X.env = (false, eval e X.env) :: starEach es X.env) (hplain : (backTo cpos (starEach es X.env)).any (·.1) = false) :
    PE X (.Call (.Attribute o name apos) (e :: es) [] cpos) (tBT X.K r to t) := by
  refine ⟨fun pins s σ H Q I h => wpAny_Call_method_late hbase hfew hline rfl (thn (ho.run pins s σ H _ I h) fun v s1 ⟨x, H1, I1, r1, ⟨a, ea, ty⟩, q1⟩ => ?_)⟩
  subst ea
  cases r1
  obtain ⟨h1, h2⟩ := tyT_is I1 ty
  refine ⟨"tuple", id, PySem.F.plainAttrs_tuple, slot, hty, h1, h2, ?_⟩
  have hA := ha.run cpos pins s1 σ H1 _ I1 q1
  rw [hs] at hA ⊢
  refine Calls.callWith_builtin (by show (false || (backTo cpos (starEach es X.env)).any (·.1)) = false; rw [hplain] <;> rfl) (Calls.evalArgs_plain ?_)
  exact thn hA fun us s2 ⟨vs, H2, I2, r2, q2⟩ => hm pins s2 σ H2 (.ref a) vs (.ref a) us Q I2 rfl r2 q2
end
end Ev
/-! EvExpr: for each form of expression, that the machine does what the data says. -/
namespace Ev
open PySem PySem.Spec PyProof.Rows L2

/-- a meaning of an expression -/
abbrev Wx := Ev → (Vl → Ev → Prop) → Prop
def tE (C : Cc) (W : Wx) : TE := fun σ H Q => ∃ pn env O k, Ok8 C C.so pn σ H env O ∧ W env k ∧
  ∀ vl env' v H' O', k vl env' → Ok8 C C.so pn σ H' env' O' → VlOk C C.so pn H' O' σ env' vl v → Step H O H' O' → Q v H'
def tA (C : Cc) (W : Wx) : TA := fun σ H Q => ∃ pn env O k, Ok8 C C.so pn σ H env O ∧ W env k ∧
  ∀ ds env' vs H' O', k (.fz (.tuple ds)) env' → Ok8 C C.so pn σ H' env' O' → FzL C.K H' O' vs ds → Step H O H' O' → Q vs H'
def tT (C : Cc) (W : Wx) : TT := fun σ H Q => ∃ (pn : List (Addr × HO)) (env : Ev) (O : Addr → Prop) (k : Bool → Ev → Prop), Ok8 C C.so pn σ H env O ∧ (W env fun vl e => truth vl fun b => k b e) ∧
  ∀ b env' H' O', k b env' → Ok8 C C.so pn σ H' env' O' → Step H O H' O' → Q b H'

section
variable {X : Cx} {C : Cc} {e a b : Expr} {es : List Expr} {pos : Pos} {wa wb wc : Wx} {H H' : Hp} {O : Addr → Prop}

theorem _root_.L2.PE.weak {t t' : TE} (h : PE X e t) (hw : ∀ σ H Q, t' σ H Q → t σ H Q) : PE X e t' := ⟨fun pins s σ H Q I q => h.run pins s σ H Q I (hw σ H Q q)⟩
theorem _root_.L2.PT.weak {t t' : TT} (h : PT X e t) (hw : ∀ σ H Q, t' σ H Q → t σ H Q) : PT X e t' := ⟨fun pins s σ H Q I q => h.run pins s σ H Q I (hw σ H Q q)⟩
theorem _root_.L2.PW.weak {t t' : TT} (h : PW X e t) (hw : ∀ σ H Q, t' σ H Q → t σ H Q) : PW X e t' := ⟨fun wh pins s σ H Q I q => h.run wh pins s σ H Q I (hw σ H Q q)⟩
theorem _root_.L2.PA.weak {t t' : TA} (h : PA X es t) (hw : ∀ σ H Q, t' σ H Q → t σ H Q) : PA X es t' := ⟨fun pos pins s σ H Q I q => h.run pos pins s σ H Q I (hw σ H Q q)⟩

/-! ### names, constants -/
theorem so_var {i : Nat} {x : Str} (hN : X.N[i]? = some x) (hv : Vis X.env.scope x) (hd : (x == ("__debug__" : Str)) = false) (hc : (x == ("__classdict__" : Str)) = false) (F : Fns) : PE X (.Name x pos) (tE C (w F (.v i))) := by
  refine (pe_var hN hv hd hc).weak fun σ H Q ⟨pn, env, O, k, K, W, q⟩ => ?_
  have sl := K.slot i
  simp only [w] at W
  generalize hs : env.getD i .no = s at sl W
  cases s with
  | no => exact W.elim
  | fz d => obtain ⟨v, e, h⟩ := sl; exact ⟨v, e, q _ _ v H O W K h .refl⟩
  | ow d => obtain ⟨v, e, _⟩ := sl; exact ⟨_, e, q _ _ _ H O W K e .refl⟩
  | src => obtain ⟨p, c, e1, e2⟩ := sl; exact ⟨_, e2, q _ _ _ H O W K ⟨p, c, e1, rfl⟩ .refl⟩
theorem so_mv {i : Nat} {x : Str} (hN : X.N[i]? = some x) (hv : Vis X.env.scope x) (hd : (x == ("__debug__" : Str)) = false) (hc : (x == ("__classdict__" : Str)) = false) (F : Fns) : PE X (.Name x pos) (tE C (w F (.mv i))) := by
  refine (pe_var hN hv hd hc).weak fun σ H Q ⟨pn, env, O, k, K, W, q⟩ => ?_
  have sl := K.slot i
  simp only [w] at W
  cases hs : env.getD i .no with
  | no => simp only [hs] at W
  | fz d => simp only [hs] at sl W; obtain ⟨v, e, h⟩ := sl; exact ⟨v, e, q _ _ v H O W K h .refl⟩
  | ow d =>
    simp only [hs] at sl W
    obtain ⟨p, e, x, n, h⟩ := sl
    have own : OwnAt σ env i p := ⟨by rw [hs]; rfl, e⟩
    refine ⟨_, e, q _ _ _ H O W (K.forget i) ⟨p, rfl, x, n, h, fun j ⟨h1, h2⟩ => ?_, ⟨fun p' c e' => (K.src p' c e').2.2.2.2 i p own, fun q hq e' => (K.pin q hq).2.2.2.1 i (e' ▸ own)⟩⟩ .refl⟩
    rw [getD_set] at h1
    split at h1
    · cases h1
    · rename_i z
      have : i = j := K.inj i j p own ⟨h1, h2⟩
      subst this
      by_cases hl : i < env.length
      · exact z ⟨rfl, hl⟩
      · rw [List.getD_eq_getElem?_getD, List.getElem?_eq_none (by omega)] at h1; cases h1
  | src => simp only [hs] at W
theorem so_const {v : V} {d : D} (h : PE X e (tC v)) (hf : ∀ K H O, Fz K H O v d) (F : Fns) : PE X e (tE C (w F (.k d))) := by
  refine h.weak fun σ H Q ⟨pn, env, O, k, K, W, q⟩ => ?_
  exact q _ _ v H O W K (hf _ _ _) .refl

/-! ### operators -/
theorem so_op {op : Operator} {r : R2} {o : Bop} (ho : OpR X (binaryOp op) r) (ha : PE X a (tE C wa)) (hb : PE X b (tE C wb))
    (hr : ∀ (H : Hp) (O : Addr → Prop) (x y : V) (dx dy : D) (k : Bool → D → Prop) (Q : VK), Rp C.K H O x dx → Rp C.K H O y dy → bopS o dx dy k → (∀ fr d v H', k fr d → Res C.K H O fr d v H' → Q v H') → r x y H Q) :
    PE X (.BinOp a op b pos) (tE C fun env k => wa env fun va e1 => wb e1 fun vb e2 => with1 va e2 fun x => with1 vb e2 fun y => bopS o x y fun fr d => k (rets fr d) e2) := by
  refine (pe_op ho ha hb).weak fun σ H Q ⟨pn, env, O, k, K, W, q⟩ => ?_
  refine ⟨pn, env, O, _, K, W, fun va e1 x H1 O1 w1 k1 v1 s1 => ?_⟩
  obtain ⟨O1', k1', s1', h1⟩ := v1.settle k1
  refine ⟨pn, e1, O1', _, k1', w1, fun vb e2 y H2 O2 w2 k2 v2 s2 => ?_⟩
  obtain ⟨dx, ex, dy, ey, w3⟩ := w2
  refine hr H2 O2 x y dx dy _ Q ((h1.step s2).rd k2 ex) (v2.rd k2 ey) w3 fun fr d v H3 w4 r3 => ?_
  obtain ⟨O3, k3, v3, s3⟩ := Res.ok k2 r3
  exact q _ _ _ _ _ w4 k3 v3 (s1.trans (s1'.trans (s2.trans s3)))
theorem so_idx {r : R2} (ho : IxR X r) (hp : PlainIxT b) (ha : PE X a (tE C wa)) (hb : PE X b (tE C wb))
    (hr : ∀ (H : Hp) (O : Addr → Prop) (x y : V) (dx dy : D) (k : D → Prop) (Q : VK), Rp C.K H O x dx → Rp C.K H O y dy → idxS dx dy k → (∀ d v, k d → Fz C.K H O v d → Q v H) → r x y H Q) :
    PE X (.Subscript a b pos) (tE C fun env k => wa env fun va e1 => wb e1 fun vb e2 => with1 va e2 fun x => with1 vb e2 fun y => idxS x y fun d => k (.fz d) e2) := by
  refine (pe_ix ho ha hb hp).weak fun σ H Q ⟨pn, env, O, k, K, W, q⟩ => ?_
  refine ⟨pn, env, O, _, K, W, fun va e1 x H1 O1 w1 k1 v1 s1 => ?_⟩
  obtain ⟨O1', k1', s1', h1⟩ := v1.settle k1
  refine ⟨pn, e1, O1', _, k1', w1, fun vb e2 y H2 O2 w2 k2 v2 s2 => ?_⟩
  obtain ⟨dx, ex, dy, ey, w3⟩ := w2
  exact hr H2 O2 x y dx dy _ Q ((h1.step s2).rd k2 ex) (v2.rd k2 ey) w3 fun d v w4 r3 => q _ _ _ _ _ w4 k2 r3 (s1.trans (s1'.trans s2))
theorem so_cmp {op : CmpOp} {r : R2} {c : Cop} (ho : OpR X (compareOp op) r) (hm : behindInMarks op b = false) (ha : PE X a (tE C wa)) (hb : PE X b (tE C wb))
    (hr : ∀ (H : Hp) (O : Addr → Prop) (x y : V) (dx dy : D) (k : Bool → Prop) (Q : VK), Rp C.K H O x dx → Rp C.K H O y dy → cmpS c dx dy k → (∀ t, k t → Q (.bl t) H) → r x y H Q) :
    PE X (.Compare a [op] [b] pos) (tE C fun env k => wa env fun va e1 => wb e1 fun vb e2 => with1 va e2 fun x => with1 vb e2 fun y => cmpS c x y fun t => k (.fz (.bool t)) e2) := by
  refine (pe_cmpR ho ha hb hm).weak fun σ H Q ⟨pn, env, O, k, K, W, q⟩ => ?_
  refine ⟨pn, env, O, _, K, W, fun va e1 x H1 O1 w1 k1 v1 s1 => ?_⟩
  obtain ⟨O1', k1', s1', h1⟩ := v1.settle k1
  refine ⟨pn, e1, O1', _, k1', w1, fun vb e2 y H2 O2 w2 k2 v2 s2 => ?_⟩
  obtain ⟨dx, ex, dy, ey, w3⟩ := w2
  exact hr H2 O2 x y dx dy _ Q ((h1.step s2).rd k2 ex) (v2.rd k2 ey) w3 fun t w4 => q _ _ _ _ _ w4 k2 (.bl t) (s1.trans (s1'.trans s2))
theorem so_cmpT {op : CmpOp} {r : R2} {c : Cop} (ho : OpR X (compareOp op) r) (hm : behindInMarks op b = false) (ha : PE X a (tE C wa)) (hb : PE X b (tE C wb))
    (hr : ∀ (H : Hp) (O : Addr → Prop) (x y : V) (dx dy : D) (k : Bool → Prop) (Q : VK), Rp C.K H O x dx → Rp C.K H O y dy → cmpS c dx dy k → (∀ t, k t → Q (.bl t) H) → r x y H Q) :
    PT X (.Compare a [op] [b] pos) (tT C fun env k => wa env fun va e1 => wb e1 fun vb e2 => with1 va e2 fun x => with1 vb e2 fun y => cmpS c x y fun t => k (.fz (.bool t)) e2) := by
  refine (pt_cmpR ho ha hb hm).weak fun σ H Q ⟨pn, env, O, k, K, W, q⟩ => ?_
  refine ⟨pn, env, O, _, K, W, fun va e1 x H1 O1 w1 k1 v1 s1 => ?_⟩
  obtain ⟨O1', k1', s1', h1⟩ := v1.settle k1
  refine ⟨pn, e1, O1', _, k1', w1, fun vb e2 y H2 O2 w2 k2 v2 s2 => ?_⟩
  obtain ⟨dx, ex, dy, ey, w3⟩ := w2
  refine hr H2 O2 x y dx dy _ _ ((h1.step s2).rd k2 ex) (v2.rd k2 ey) w3 fun t w4 => ⟨t, rfl, ?_⟩
  obtain ⟨b, eb, w5⟩ := w4
  cases eb
  exact q _ _ _ _ w5 k2 (s1.trans (s1'.trans s2))
theorem so_un {op : UnaryOp} (ho : UnR X (unaryOp op) (rU fun i => .int (-i))) (ha : PE X a (tE C wa)) : PE X (.UnaryOp op a pos) (tE C fun env k => wa env fun va e1 => ∃ i, va = .fz (.int i) ∧ k (.fz (.int (-i))) e1) := by
  refine (pe_un ho ha).weak fun σ H Q ⟨pn, env, O, k, K, W, q⟩ => ?_
  refine ⟨pn, env, O, _, K, W, fun va e1 x H1 O1 ⟨i, e, w1⟩ k1 v1 s1 => ?_⟩
  subst e
  cases (show Fz C.K H1 O1 x (.int i) from v1)
  exact ⟨i, rfl, q _ _ _ _ _ w1 k1 (.int _) s1⟩

/-! ### tests -/
theorem so_testE (h : PE X e (tE C wa)) (he : ∀ whole, isTrue e X.env whole = (do let v ← whole; standAt e.pos; holding [v] (truthy v))) : PT X e (tT C wa) := by
  refine (pt_val h he).weak fun σ H Q ⟨pn, env, O, k, K, W, q⟩ => ?_
  refine ⟨pn, env, O, _, K, W, fun va e1 x H1 O1 ⟨b, e, w1⟩ k1 v1 s1 => ?_⟩
  subst e
  cases (show Fz C.K H1 O1 x (.bool b) from v1)
  exact ⟨b, rfl, q _ _ _ _ w1 k1 s1⟩
theorem so_not (h : PT X a (tT C wa)) : PT X (.UnaryOp .Not a pos) (tT C fun env k => wa env fun va e1 => truth va fun c => k (.fz (.bool (!c))) e1) := by
  refine (pt_not h).weak fun σ H Q ⟨pn, env, O, k, K, W, q⟩ => ?_
  refine ⟨pn, env, O, _, K, W, fun b e1 H1 O1 ⟨c, ec, w1⟩ k1 s1 => ?_⟩
  cases ec
  exact q _ _ _ _ w1 k1 s1
theorem so_notE (h : PE X a (tE C wa)) : PE X (.UnaryOp .Not a pos) (tE C fun env k => wa env fun va e1 => truth va fun c => k (.fz (.bool (!c))) e1) := by
  refine (pe_not h).weak fun σ H Q ⟨pn, env, O, k, K, W, q⟩ => ?_
  refine ⟨pn, env, O, _, K, W, fun va e1 x H1 O1 ⟨c, ec, w1⟩ k1 v1 s1 => ?_⟩
  subst ec
  cases (show Fz C.K H1 O1 x (.bool c) from v1)
  exact ⟨c, rfl, q _ _ _ _ _ w1 k1 (.bl _) s1⟩
def wAnd (wa wb : Wx) : Wx := fun env k => wa env fun va e1 => truth va fun c => if c = true then wb e1 fun vb e2 => truth vb fun c => k (.fz (.bool c)) e2 else k (.fz (.bool false)) e1
def wOr (wa wb : Wx) : Wx := fun env k => wa env fun va e1 => truth va fun c => if c = true then k (.fz (.bool true)) e1 else wb e1 fun vb e2 => truth vb fun c => k (.fz (.bool c)) e2
variable {rest : List Expr}
/-- the meaning of one truth alone -/
def wT (wa : Wx) : Wx := fun env k => wa env fun va e1 => truth va fun c => k (.fz (.bool c)) e1
theorem so_andT (ha : PT X a (tT C wa)) (hb : PW X (.BoolOp .And (b :: rest) pos) (tT C wb)) : PW X (.BoolOp .And (a :: b :: rest) pos) (tT C (wAnd wa wb)) := by
  refine (pw_and ha hb).weak fun σ H Q ⟨pn, env, O, k, K, W, q⟩ => ?_
  refine ⟨pn, env, O, _, K, W, fun c e1 H1 O1 w1 k1 s1 => ?_⟩
  cases c with
  | true =>
    refine iteT ?_
    simp only [if_true] at w1
    refine ⟨pn, e1, O1, fun c e2 => k c e2, k1, ?_, fun c e2 H2 O2 w2 k2 s2 => q _ _ _ _ w2 k2 (s1.trans s2)⟩
    have hh : ∀ vb e2, (truth vb fun c => truth (.fz (.bool c)) fun b => k b e2) ↔ truth vb fun c => k c e2 := fun vb e2 => ⟨fun ⟨c, x, c', y, z⟩ => by cases y; exact ⟨c, x, z⟩, fun ⟨c, x, z⟩ => ⟨c, x, c, rfl, z⟩⟩
    have hf : (fun vb e2 => truth vb fun c => truth (.fz (.bool c)) fun b => k b e2) = fun vb e2 => truth vb fun c => k c e2 := by funext vb e2; exact propext (hh vb e2)
    rw [hf] at w1
    exact w1
  | false =>
    refine iteF ?_
    simp only [Bool.false_eq_true, if_false] at w1
    obtain ⟨c, ec, w1⟩ := w1
    cases ec
    exact q _ _ _ _ w1 k1 s1
theorem so_orT (ha : PT X a (tT C wa)) (hb : PW X (.BoolOp .Or (b :: rest) pos) (tT C wb)) : PW X (.BoolOp .Or (a :: b :: rest) pos) (tT C (wOr wa wb)) := by
  refine (pw_or ha hb).weak fun σ H Q ⟨pn, env, O, k, K, W, q⟩ => ?_
  refine ⟨pn, env, O, _, K, W, fun c e1 H1 O1 w1 k1 s1 => ?_⟩
  cases c with
  | false =>
    refine iteF ?_
    simp only [Bool.false_eq_true, if_false] at w1
    refine ⟨pn, e1, O1, fun c e2 => k c e2, k1, ?_, fun c e2 H2 O2 w2 k2 s2 => q _ _ _ _ w2 k2 (s1.trans s2)⟩
    have hh : ∀ vb e2, (truth vb fun c => truth (.fz (.bool c)) fun b => k b e2) ↔ truth vb fun c => k c e2 := fun vb e2 => ⟨fun ⟨c, x, c', y, z⟩ => by cases y; exact ⟨c, x, z⟩, fun ⟨c, x, z⟩ => ⟨c, x, c, rfl, z⟩⟩
    have hf : (fun vb e2 => truth vb fun c => truth (.fz (.bool c)) fun b => k b e2) = fun vb e2 => truth vb fun c => k c e2 := by funext vb e2; exact propext (hh vb e2)
    rw [hf] at w1
    exact w1
  | true =>
    refine iteT ?_
    simp only [if_true] at w1
    obtain ⟨c, ec, w1⟩ := w1
    cases ec
    exact q _ _ _ _ w1 k1 s1
theorem so_andE (ha : PE X a (tE C wa)) (hb : PE X (.BoolOp .And (b :: rest) pos) (tE C wb)) : PE X (.BoolOp .And (a :: b :: rest) pos) (tE C (wAnd wa wb)) := by
  refine (pe_and ha hb).weak fun σ H Q ⟨pn, env, O, k, K, W, q⟩ => ?_
  refine ⟨pn, env, O, _, K, W, fun va e1 x H1 O1 w1 k1 v1 s1 => ?_⟩
  obtain ⟨c, ec, w1⟩ := w1
  subst ec
  cases (show Fz C.K H1 O1 x (.bool c) from v1)
  refine ⟨c, rfl, ?_⟩
  cases c with
  | true =>
    refine iteT ?_
    simp only [if_true] at w1
    refine ⟨pn, e1, O1, _, k1, w1, fun vb e2 y H2 O2 ⟨c, ec, w2⟩ k2 v2 s2 => ?_⟩
    subst ec
    exact q _ _ _ _ _ w2 k2 v2 (s1.trans s2)
  | false =>
    refine iteF ?_
    simp only [Bool.false_eq_true, if_false] at w1
    exact q _ _ _ _ _ w1 k1 (.bl _) s1
theorem so_orE (ha : PE X a (tE C wa)) (hb : PE X (.BoolOp .Or (b :: rest) pos) (tE C wb)) : PE X (.BoolOp .Or (a :: b :: rest) pos) (tE C (wOr wa wb)) := by
  refine (pe_or ha hb).weak fun σ H Q ⟨pn, env, O, k, K, W, q⟩ => ?_
  refine ⟨pn, env, O, _, K, W, fun va e1 x H1 O1 w1 k1 v1 s1 => ?_⟩
  obtain ⟨c, ec, w1⟩ := w1
  subst ec
  cases (show Fz C.K H1 O1 x (.bool c) from v1)
  refine ⟨c, rfl, ?_⟩
  cases c with
  | false =>
    refine iteF ?_
    simp only [Bool.false_eq_true, if_false] at w1
    refine ⟨pn, e1, O1, _, k1, w1, fun vb e2 y H2 O2 ⟨c, ec, w2⟩ k2 v2 s2 => ?_⟩
    subst ec
    exact q _ _ _ _ _ w2 k2 v2 (s1.trans s2)
  | true =>
    refine iteT ?_
    simp only [if_true] at w1
    exact q _ _ _ _ _ w1 k1 (.bl _) s1
theorem so_ite {c : Expr} (ht : PT X c (tT C wc)) (ha : PE X a (tE C wa)) (hb : PE X b (tE C wb)) : PE X (.IfExp c a b pos) (tE C fun env k => wc env fun vt e1 => truth vt fun c => if c = true then wa e1 k else wb e1 k) := by
  refine (pe_ifExp ht ha hb).weak fun σ H Q ⟨pn, env, O, k, K, W, q⟩ => ?_
  refine ⟨pn, env, O, _, K, W, fun c e1 H1 O1 w1 k1 s1 => ?_⟩
  cases c with
  | true =>
    refine iteT ?_
    simp only [if_true] at w1
    exact ⟨pn, e1, O1, _, k1, w1, fun vb e2 y H2 O2 w2 k2 v2 s2 => q _ _ _ _ _ w2 k2 v2 (s1.trans s2)⟩
  | false =>
    refine iteF ?_
    simp only [Bool.false_eq_true, if_false] at w1
    exact ⟨pn, e1, O1, _, k1, w1, fun vb e2 y H2 O2 w2 k2 v2 s2 => q _ _ _ _ _ w2 k2 v2 (s1.trans s2)⟩

/-! ### None, True, False -/
theorem so_isN {j pos'} (ha : PE X a (tE C wa)) : PE X (.Compare a [.Is] [.Constant .none j pos'] pos) (tE C fun env k => wa env fun va e1 => with1 va e1 fun x => k (.fz (.bool (isNoneD x))) e1) := by
  refine (pe_cmp (pc_isN ha)).weak fun σ H Q ⟨pn, env, O, k, K, W, q⟩ => ?_
  refine ⟨pn, env, O, _, K, W, fun va e1 x H1 O1 ⟨d, ed, w1⟩ k1 v1 s1 => ?_⟩
  have r := v1.rd k1 ed
  have e : decide (x = .non) = isNoneD d := by
    rcases r with r | ⟨p, rfl, r⟩
    · cases r <;> rfl
    · cases d <;> first | rfl | exact False.elim r
  show Q (.bl (decide (x = .non))) H1
  rw [e]
  exact q _ _ _ _ _ w1 k1 (.bl _) s1
theorem so_notN {j pos'} (ha : PE X a (tE C wa)) : PE X (.Compare a [.IsNot] [.Constant .none j pos'] pos) (tE C fun env k => wa env fun va e1 => with1 va e1 fun x => k (.fz (.bool (!isNoneD x))) e1) := by
  refine (pe_cmp (pc_notN ha)).weak fun σ H Q ⟨pn, env, O, k, K, W, q⟩ => ?_
  refine ⟨pn, env, O, _, K, W, fun va e1 x H1 O1 ⟨d, ed, w1⟩ k1 v1 s1 => ?_⟩
  have r := v1.rd k1 ed
  have e : (!decide (x = .non)) = !isNoneD d := by
    rcases r with r | ⟨p, rfl, r⟩
    · cases r <;> rfl
    · cases d <;> first | rfl | exact False.elim r
  show Q (.bl (!decide (x = .non))) H1
  rw [e]
  exact q _ _ _ _ _ w1 k1 (.bl _) s1

/-! ### lists of things, displays -/
theorem so_nil (F : Fns) : PA X [] (tA C (w F .nil)) := by
  refine pa_nil.weak fun σ H Q ⟨pn, env, O, k, K, W, q⟩ => ?_
  exact q [] env [] H O W K .nil .refl
theorem so_cons (ha : PE X a (tE C wa)) (hr : PA X es (tA C wb)) (hs : starEach (a :: es) X.env = (false, eval a X.env) :: starEach es X.env) :
    PA X (a :: es) (tA C fun env k => wa env fun va e1 => va.give e1 fun x e2 => wb e2 fun vb e3 => ∃ xs, vb = .fz (.tuple xs) ∧ k (.fz (.tuple (x :: xs))) e3) := by
  refine (pa_cons ha hr hs).weak fun σ H Q ⟨pn, env, O, k, K, W, q⟩ => ?_
  refine ⟨pn, env, O, _, K, W, fun va e1 x H1 O1 w1 k1 v1 s1 => ?_⟩
  obtain ⟨d, e2, O2, w2, k2, s2, f2⟩ := v1.give k1 w1
  refine ⟨pn, e2, O2, _, k2, w2, fun ds e3 vs H3 O3 ⟨xs, ex, w3⟩ k3 f3 s3 => ?_⟩
  cases ex
  exact q _ _ _ _ _ w3 k3 (.cons (f2.step s3) f3) (s1.trans (s2.trans s3))
theorem so_star {p : Pos} (hK : X.K = C.K) (ha : PE X a (tE C wa)) (hr : PA X es (tA C wb)) :
    PA X (.Starred a p :: es) (tA C fun env k => wa env fun va e1 => va.give e1 fun x e2 => ∃ ys, items? x = some ys ∧ wb e2 fun vb e3 => ∃ xs, vb = .fz (.tuple xs) ∧ k (.fz (.tuple (ys ++ xs))) e3) := by
  refine (StX.pa_star ha hr rfl).weak fun σ H Q ⟨pn, env, O, k, K, W, q⟩ => ?_
  refine ⟨pn, env, O, _, K, W, fun va e1 x H1 O1 w1 k1 v1 s1 => ?_⟩
  obtain ⟨d, e2, O2, ⟨ys, hys, w2⟩, k2, s2, f2⟩ := v1.give k1 w1
  have main : ∃ p xs, x = V.ref p ∧ (SqT C.K H1 p xs ∨ SqL C.K H1 p xs) ∧ FzL C.K H1 O2 xs ys := by
    cases d with
    | list zs => cases hys; obtain ⟨p, vs, rfl, e, _, f⟩ := Rp.list (.inl f2); exact ⟨p, vs, rfl, .inr (SqL.of e), f⟩
    | tuple zs => cases hys; obtain ⟨p, vs, rfl, e, _, f⟩ := Rp.tup (.inl f2); exact ⟨p, vs, rfl, .inl e, f⟩
    | _ => cases hys
  obtain ⟨p, xs, rfl, hq, f⟩ := main
  rw [hK]
  refine ⟨p, xs, rfl, hq, pn, e2, O2, _, k2, w2, fun ds e3 vs H3 O3 ⟨xs', ex, w3⟩ k3 f3 s3 => ?_⟩
  cases ex
  exact q _ _ _ _ _ w3 k3 ((f.step s3).append f3) (s1.trans (s2.trans s3))

theorem so_tup {x1} (h : PA X es (tA C wa)) : PE X (.Tuple es x1 pos) (tE C fun env k => wa env fun va e1 => ∃ xs, va = .fz (.tuple xs) ∧ Fits xs.length ∧ k (.fz (.tuple xs)) e1) := by
  refine (pe_tupF h).weak fun σ H Q ⟨pn, env, O, k, K, W, q⟩ => ?_
  refine ⟨pn, env, O, _, K, W, fun ds e1 vs H1 O1 ⟨xs, ex, hz, w1⟩ k1 f1 s1 => ?_⟩
  cases ex
  have hz' : vs.length ≤ sizeLine := by rw [sizeLine_eq, f1.length]; exact hz
  refine ⟨hz', fun p o n ho => ?_⟩
  obtain ⟨O3, k3, v3, s3⟩ := Res.ok k1 (.tup n ho hz' f1)
  exact q _ _ _ _ _ w1 k3 v3 (s1.trans s3)
theorem so_lst (h : PA X es (tA C wa)) : PE X (.List es pos) (tE C fun env k => wa env fun va e1 => ∃ xs, va = .fz (.tuple xs) ∧ Fits xs.length ∧ k (.fr (.list xs)) e1) := by
  refine (pe_lst h).weak fun σ H Q ⟨pn, env, O, k, K, W, q⟩ => ?_
  refine ⟨pn, env, O, _, K, W, fun ds e1 vs H1 O1 ⟨xs, ex, hz, w1⟩ k1 f1 s1 => ?_⟩
  cases ex
  have hz' : vs.length ≤ sizeLine := by rw [sizeLine_eq, f1.length]; exact hz
  refine ⟨hz', fun p n => ?_⟩
  obtain ⟨O3, k3, v3, s3⟩ := Res.ok k1 (.lst n hz' f1)
  exact q _ _ _ _ _ w1 k3 v3 (s1.trans s3)
end
end Ev
/-! EvOps: the operators, value by value. -/
namespace Ev
open PySem PySem.Spec PyProof.Rows L2

theorem fitsL {n : Nat} : Fits n ↔ n ≤ sizeLine := by rw [sizeLine_eq]; rfl

section
variable {X : Cx} {K : PySem.W.Frag} {H H' : Hp} {O : Addr → Prop} {x y : V} {dx dy : D} {Q : VK}

/-! ### * of ints of any size that the machine takes; tuple * int -/
theorem mulOk {i j : Int} (h : MulOk i j) : IntMulOk i j := by
  rcases h with h | h | h
  · exact CMul.ok (.inl (by omega))
  · exact CMul.ok (.inr (by omega))
  · have b : ∀ x : Int, Builtin.Int.intBits x ≤ x.natAbs.log2 + 1 := fun x => by
      unfold Builtin.Int.intBits
      split <;> omega
    have h1 := b i
    have h2 := b j
    have e : bitsLine = 134217728 := by decide
    unfold IntMulOk
    intro z
    rw [Bool.and_eq_true] at z
    have z2 := z.2
    unfold Builtin.Int.intTooBig at z2
    have z3 := of_decide_eq_true z2
    rw [e] at z3
    omega
/-- what the frame that runs is -/
def FrOk (A : Around) : Prop := ∃ (env : Env) (l : List Env), A.frames = some (env :: l) ∧ env.scope.isGenerator = false ∧ env.scope.isCoroutine = false ∧ env.builtins = builtinsNs ∧ env.globals = mainGlobals
/-- what a division of great ints asks -/
structure Dvs (X : Cx) : Prop where
  seer : X.base.NoSeer
  tree : X.prog.given.tree = none
  fr : FrOk X.A
  dp : X.A.depth + Builtin.pylongFrames < recursionLimit
theorem op_fdivA (g : Dvs X) : OpR X (binaryOp .FloorDiv) (rI (fun _ j => DivOk j) fun i j => .int (i / j)) := by
  intro pins s σ H x y v u Q I rx ry h
  obtain ⟨i, j, rfl, rfl, hc, q⟩ := h
  have hc : 0 < j := hc
  obtain ⟨t, rfl⟩ := rx
  obtain ⟨t', rfl⟩ := ry
  obtain ⟨env, l, h1, h2, h3, h4, h5⟩ := g.fr
  refine floordiv_int (by omega) ⟨.int (i / j), H, I.tok _, ⟨_, by rw [Int.fdiv_eq_ediv_of_nonneg i (by omega)]⟩, q⟩ (.inr (PylongRoom.of I.nolimit g.dp (SeerAt.of (g.seer.keeps I.bk) g.tree h1 h2 h3 h4 h5)))
theorem op_mulA : OpR X (binaryOp .Mult) (rI MulOk fun i j => .int (i * j)) := by
  intro pins s σ H x y v u Q I rx ry h
  obtain ⟨i, j, rfl, rfl, hc, q⟩ := h
  obtain ⟨t, rfl⟩ := rx
  obtain ⟨t', rfl⟩ := ry
  exact mul_int ⟨.int _, H, I.tok _, ⟨_, rfl⟩, q⟩ (mulOk hc)
theorem tup_mul_same (l : Addr) (items : Array Value) (n : Nat) (dd : Option Addr) (sl : Array (Option Value)) (x : Int) (u : Tok) (c0 : (decide (x < -(2 ^ 63)) || decide (x ≥ 2 ^ 63)) = false) (c1 : (items.isEmpty || x == 1) = true) :
    Meets (Builtin.«tuple.__mul__» ⟨[.ref l, .int x u], []⟩) (fun _ R s => s.heap.get? l = some { cls := .type "tuple", dict := dd, data := .seq items n, slots := sl } ∧ R (.ok (.ret (Value.ref l))) s) :=
  .of_wp fun prog w A R s h => by
    obtain ⟨hp, g, d, tk, os⟩ := s
    obtain ⟨hl, h⟩ := h
    have f1 := AutoSeq1.idx_int
    wp_walk using wpAny_loadPart' hl
    refine wpAny_ite_false (decide_eq_false (by rw [c0]; exact Bool.false_ne_true)) ?_
    wp_walk using wpAny_loadPart' hl
    exact ⟨_, rfl, h⟩
theorem tup_mul_none (l : Addr) (items : Array Value) (n : Nat) (dd : Option Addr) (sl : Array (Option Value)) (x : Int) (u : Tok) (c0 : (decide (x < -(2 ^ 63)) || decide (x ≥ 2 ^ 63)) = false) (c1 : (items.isEmpty || x == 1) = false)
    (c2 : (decide (x ≤ 0) || items.isEmpty) = true) :
    Meets (Builtin.«tuple.__mul__» ⟨[.ref l, .int x u], []⟩) (fun _ R s => s.heap.get? l = some { cls := .type "tuple", dict := dd, data := .seq items n, slots := sl } ∧
      R (.ok (.ret (Value.ref s.heap.objs.size))) { s with heap := s.heap.push { cls := Value.type "tuple", data := Data.seq #[] }, toks := s.toks }) :=
  .of_wp fun prog w A R s h => by
    obtain ⟨hp, g, d, tk, os⟩ := s
    obtain ⟨hl, h⟩ := h
    have f1 := AutoSeq1.idx_int
    wp_walk using wpAny_loadPart' hl
    refine wpAny_ite_false (decide_eq_false (by rw [c0]; exact Bool.false_ne_true)) ?_
    wp_walk using wpAny_loadPart' hl
    exact ⟨_, rfl, h⟩
def rRepA (K : PySem.W.Frag) : R2 := fun x y H Q => ∃ l k xs, x = .ref l ∧ y = .int k ∧ SqT K H l xs ∧ -1000000 ≤ k ∧ k ≤ 1000 ∧ xs.length ≤ 1000 ∧
  ((xs = [] ∨ k = 1) → Q (.ref l) H) ∧ (xs ≠ [] → k ≠ 1 → ∀ (p : Addr) (o : Obj), H p = none → Bare o → Q (.ref p) (upd H p (.frz o (.tup (List.replicate k.toNat xs).flatten))))
theorem op_repA : OpR X (binaryOp .Mult) (rRepA X.K) := by
  intro pins s σ H x y v u Q I rx ry h
  obtain ⟨l, k, xs, rfl, rfl, hT, hlo, h2, hz, q1, q2⟩ := h
  by_cases big : xs ≠ [] ∧ 2 ≤ k
  · obtain ⟨hne, h1⟩ := big
    have q := q2 hne (by omega)
    cases rx
    obtain ⟨t, rfl⟩ := ry
    obtain ⟨its, r, ⟨⟨cls, dd, data, sl⟩, ho, hc, n, hd⟩, hs⟩ := I.tuple hT
    simp only at hc hd
    subst hc hd
    have hle : its.length = xs.length := r.length.symm
    have hi : its.toArray.isEmpty = false := by
      cases its with
      | nil => exact absurd (List.eq_nil_of_length_eq_zero hle.symm) hne
      | cons a b => rfl
    have hsz0 : its.toArray.size = xs.length := by rw [List.size_toArray, hle]
    have a1 : ((xs.length : Nat) : Int) * k ≤ 1000 * k := Int.mul_le_mul_of_nonneg_right (by omega) (by omega)
    have a2 : k.toNat * xs.length ≤ 1000 * 1000 := Nat.mul_le_mul (by omega) hz
    have hm : ((its.toArray.size : Nat) : Int) * k ≤ 1000000 := by rw [hsz0]; omega
    have flen : (List.replicate k.toNat its).flatten.length ≤ sizeLine := by
      rw [PyProof.Rows.lm_len_rep_flat, hle, sizeLine_eq]; omega
    have c0 : (decide (k < -(2 ^ 63)) || decide (k ≥ 2 ^ 63)) = false := by
      rw [decide_eq_false (by omega), decide_eq_false (by omega)] <;> rfl
    have c1 : (its.toArray.isEmpty || k == 1) = false := by
      rw [hi, Bool.false_or]; exact beq_eq_false_iff_ne.mpr (by omega)
    have c2 : (decide (k ≤ 0) || its.toArray.isEmpty) = false := by
      rw [hi, Bool.or_false]; exact decide_eq_false (by omega)
    have c4 : Builtin.Tuple.tupleTooMany (((its.toArray.size : Nat) : Int) * k) = false := by
      unfold Builtin.Tuple.tupleTooMany
      rw [sizeLine_eq, hsz0]
      exact decide_eq_false (by omega)
    refine wpAny_binaryOp_repeat_ref (T := "tuple") (U := "int") (by decide) ⟨_, ho, rfl⟩ (fun s' => typeIs_int s' k t) noFill_tuple_mul F.fills_int_mul F.slot_int_rmul repeat_tuple F.slot_int_index.lookup
      (call_meets F.slot_int_rmul (typeIs_int s k t) F.entry_int_rmul (F.args_int_rmul_2 _ _) (int_rmul_tuple k t l its.toArray n dd sl)
        ⟨ho, rfl, ⟨_, ho, rfl⟩, call_meets F.slot_tuple_mul ⟨_, ho, rfl⟩ F.entry_tuple_mul (F.args_tuple_mul_2 _ _) (tuple_mulW l its.toArray n dd sl k t c0 c1 c2 (by omega) c4 (by rw [size_rep, List.size_toArray]; exact flen)) ⟨ho, ?_⟩⟩)
    rw [size_rep]
    exact ⟨.ref s.heap.objs.size, _, I.laid (t' := s.toks) (o := .frz (tob _) (.tup (List.replicate k.toNat xs).flatten)) (fun b ob q => Heap.get?_push_of_some _ q) (Nat.le_refl _) (tob_ok (by rw [PyProof.Rows.lm_len_rep_flat, sizeLine_eq]; omega) (r.rep k.toNat) (Heap.get?_push_size _ rfl)), rfl, q _ _ (I.hok.fresh (Nat.le_refl _)) ⟨rfl, rfl⟩⟩
  · cases rx
    obtain ⟨t, rfl⟩ := ry
    obtain ⟨its, r, ⟨⟨cls, dd, data, sl⟩, ho, hc, n, hd⟩, hs⟩ := I.tuple hT
    simp only at hc hd
    subst hc hd
    have hle : its.length = xs.length := r.length.symm
    have emp : its.toArray.isEmpty = decide (xs = []) := by
      cases its with
      | nil => cases xs with
        | nil => rfl
        | cons _ _ => simp at hle
      | cons _ _ => cases xs with
        | nil => simp at hle
        | cons _ _ => simp
    have c0 : (decide (k < -(2 ^ 63)) || decide (k ≥ 2 ^ 63)) = false := by
      rw [decide_eq_false (by omega), decide_eq_false (by omega)] <;> rfl
    by_cases hx : xs = [] ∨ k = 1
    · have c1 : (its.toArray.isEmpty || k == 1) = true := by
        rw [emp, Bool.or_eq_true, decide_eq_true_eq, beq_iff_eq]
        exact hx
      refine wpAny_binaryOp_repeat_ref (T := "tuple") (U := "int") (by decide) ⟨_, ho, rfl⟩ (fun s' => typeIs_int s' k t) noFill_tuple_mul F.fills_int_mul F.slot_int_rmul repeat_tuple F.slot_int_index.lookup
        (call_meets F.slot_int_rmul (typeIs_int s k t) F.entry_int_rmul (F.args_int_rmul_2 _ _) (int_rmul_tuple k t l its.toArray n dd sl)
          ⟨ho, rfl, ⟨_, ho, rfl⟩, call_meets F.slot_tuple_mul ⟨_, ho, rfl⟩ F.entry_tuple_mul (F.args_tuple_mul_2 _ _) (tup_mul_same l its.toArray n dd sl k t c0 c1) ⟨ho, ?_⟩⟩)
      exact ⟨.ref l, H, I, rfl, q1 hx⟩
    · have hx1 : xs ≠ [] := fun e => hx (.inl e)
      have hx2 : k ≠ 1 := fun e => hx (.inr e)
      have hk : k ≤ 0 := by
        by_cases hk : k ≤ 0
        · exact hk
        · exact absurd ⟨hx1, by omega⟩ big
      have c1 : (its.toArray.isEmpty || k == 1) = false := by
        rw [emp, decide_eq_false hx1, Bool.false_or]
        exact beq_eq_false_iff_ne.mpr hx2
      have c2 : (decide (k ≤ 0) || its.toArray.isEmpty) = true := by rw [decide_eq_true hk]; rfl
      have e0 : k.toNat = 0 := by omega
      refine wpAny_binaryOp_repeat_ref (T := "tuple") (U := "int") (by decide) ⟨_, ho, rfl⟩ (fun s' => typeIs_int s' k t) noFill_tuple_mul F.fills_int_mul F.slot_int_rmul repeat_tuple F.slot_int_index.lookup
        (call_meets F.slot_int_rmul (typeIs_int s k t) F.entry_int_rmul (F.args_int_rmul_2 _ _) (int_rmul_tuple k t l its.toArray n dd sl)
          ⟨ho, rfl, ⟨_, ho, rfl⟩, call_meets F.slot_tuple_mul ⟨_, ho, rfl⟩ F.entry_tuple_mul (F.args_tuple_mul_2 _ _) (tup_mul_none l its.toArray n dd sl k t c0 c1 c2) ⟨ho, ?_⟩⟩)
      have q3 := q2 hx1 hx2
      rw [e0] at q3
      exact ⟨.ref s.heap.objs.size, _, I.laid (t' := s.toks) (o := .frz (tob []) (.tup [])) (fun b ob q => Heap.get?_push_of_some _ q) (Nat.le_refl _) (tob_ok (Nat.zero_le _) .nil (Heap.get?_push_size _ rfl)), rfl, q3 _ _ (I.hok.fresh (Nat.le_refl _)) ⟨rfl, rfl⟩⟩

/-! ### the operators, by data -/
theorem v_addI {k : Bool → D → Prop} (rx : Rp K H O x dx) (ry : Rp K H O y dy) (h : bopS .addI dx dy k) (q : ∀ fr d v H', k fr d → Res K H O fr d v H' → Q v H') : rI0 (fun i j => .int (i + j)) x y H Q := by
  cases dx with
  | int i => cases dy with
    | int j => exact ⟨i, j, rx.int, ry.int, q _ _ _ _ h (.old (.int _))⟩
    | _ => exact h.elim
  | _ => exact h.elim
theorem v_subI {k : Bool → D → Prop} (rx : Rp K H O x dx) (ry : Rp K H O y dy) (h : bopS .subI dx dy k) (q : ∀ fr d v H', k fr d → Res K H O fr d v H' → Q v H') : rI0 (fun i j => .int (i - j)) x y H Q := by
  cases dx with
  | int i => cases dy with
    | int j => exact ⟨i, j, rx.int, ry.int, q _ _ _ _ h (.old (.int _))⟩
    | _ => exact h.elim
  | _ => exact h.elim
theorem v_mulI {k : Bool → D → Prop} (rx : Rp K H O x dx) (ry : Rp K H O y dy) (h : bopS .mulI dx dy k) (q : ∀ fr d v H', k fr d → Res K H O fr d v H' → Q v H') : rI MulOk (fun i j => .int (i * j)) x y H Q := by
  cases dx with
  | int i => cases dy with
    | int j => exact ⟨i, j, rx.int, ry.int, h.1, q _ _ _ _ h.2 (.old (.int _))⟩
    | _ => exact h.elim
  | _ => exact h.elim
theorem v_fdivI {k : Bool → D → Prop} (rx : Rp K H O x dx) (ry : Rp K H O y dy) (h : bopS .fdivI dx dy k) (q : ∀ fr d v H', k fr d → Res K H O fr d v H' → Q v H') : rI (fun _ j => DivOk j) (fun i j => .int (i / j)) x y H Q := by
  cases dx with
  | int i => cases dy with
    | int j => exact ⟨i, j, rx.int, ry.int, h.1, q _ _ _ _ h.2 (.old (.int _))⟩
    | _ => exact h.elim
  | _ => exact h.elim
theorem v_modI {k : Bool → D → Prop} (rx : Rp K H O x dx) (ry : Rp K H O y dy) (h : bopS .modI dx dy k) (q : ∀ fr d v H', k fr d → Res K H O fr d v H' → Q v H') : rI (fun _ j => 0 < j) (fun i j => .int (i % j)) x y H Q := by
  cases dx with
  | int i => cases dy with
    | int j => exact ⟨i, j, rx.int, ry.int, h.1, q _ _ _ _ h.2 (.old (.int _))⟩
    | _ => exact h.elim
  | _ => exact h.elim
theorem v_powI {k : Bool → D → Prop} (rx : Rp K H O x dx) (ry : Rp K H O y dy) (h : bopS .powI dx dy k) (q : ∀ fr d v H', k fr d → Res K H O fr d v H' → Q v H') : rI CPow (fun i j => .int (i ^ j.toNat)) x y H Q := by
  cases dx with
  | int i => cases dy with
    | int j => exact ⟨i, j, rx.int, ry.int, h.1, q _ _ _ _ h.2 (.old (.int _))⟩
    | _ => exact h.elim
  | _ => exact h.elim
theorem v_addL {k : Bool → D → Prop} (rx : Rp K H O x dx) (ry : Rp K H O y dy) (h : bopS .addL dx dy k) (q : ∀ fr d v H', k fr d → Res K H O fr d v H' → Q v H') : rCat x y H Q := by
  cases dx with
  | list xs => cases dy with
    | list ys =>
      obtain ⟨a, vs, rfl, ea, _, fa⟩ := rx.list
      obtain ⟨b, ws, rfl, eb, _, fb⟩ := ry.list
      have hz : vs.length + ws.length ≤ sizeLine := by rw [fa.length, fb.length]; exact fitsL.mp h.1
      exact ⟨a, b, vs, ws, rfl, rfl, ea, eb, hz, fun p n => q _ _ _ _ h.2 (.lst n (by rw [List.length_append]; exact hz) (fa.append fb))⟩
    | _ => exact h.elim
  | _ => exact h.elim
theorem v_addT {k : Bool → D → Prop} (rx : Rp K H O x dx) (ry : Rp K H O y dy) (h : bopS .addT dx dy k) (q : ∀ fr d v H', k fr d → Res K H O fr d v H' → Q v H') : rCatF K x y H Q := by
  cases dx with
  | tuple xs => cases dy with
    | tuple ys =>
      have fx : Fz K H O x (.tuple xs) := by rcases rx with r | ⟨_, _, r⟩; exact r; exact r.elim
      have fy : Fz K H O y (.tuple ys) := by rcases ry with r | ⟨_, _, r⟩; exact r; exact r.elim
      obtain ⟨a, vs, rfl, ea, _, fa⟩ := rx.tup
      obtain ⟨b, ws, rfl, eb, _, fb⟩ := ry.tup
      have hz : vs.length + ws.length ≤ sizeLine := by rw [fa.length, fb.length]; exact fitsL.mp h.1
      refine ⟨a, b, vs, ws, rfl, rfl, ea, eb, hz, fun e => ?_, fun _ e => ?_, fun _ _ p o n ho => q _ _ _ _ h.2 (.tup n ho (by rw [List.length_append]; exact hz) (fa.append fb))⟩
      · subst e
        cases fa
        exact q _ _ _ _ h.2 (.old fy)
      · subst e
        cases fb
        have e0 : xs ++ [] = xs := List.append_nil xs
        exact q _ _ _ _ h.2 (by rw [e0]; exact .old fx)
    | _ => exact h.elim
  | _ => exact h.elim
theorem v_mulL {k : Bool → D → Prop} (rx : Rp K H O x dx) (ry : Rp K H O y dy) (h : bopS .mulL dx dy k) (q : ∀ fr d v H', k fr d → Res K H O fr d v H' → Q v H') : rRep x y H Q := by
  cases dx with
  | list xs => cases dy with
    | int j =>
      obtain ⟨a, vs, rfl, ea, _, fa⟩ := rx.list
      obtain ⟨⟨h1, h2, h3⟩, h4⟩ := h
      have hz : vs.length * j.toNat ≤ sizeLine := by rw [fa.length]; exact fitsL.mp h3
      refine ⟨a, j, vs, rfl, ry.int, ea, by omega, by omega, hz, fun p n => q _ _ _ _ h4 (.lst n ?_ (fa.rep _))⟩
      rw [PyProof.Rows.lm_len_rep_flat, Nat.mul_comm]; exact hz
    | _ => exact h.elim
  | _ => exact h.elim
theorem v_mulT {k : Bool → D → Prop} (rx : Rp K H O x dx) (ry : Rp K H O y dy) (h : bopS .mulT dx dy k) (q : ∀ fr d v H', k fr d → Res K H O fr d v H' → Q v H') : rRepA K x y H Q := by
  cases dx with
  | tuple xs => cases dy with
    | int j =>
      have fx : Fz K H O x (.tuple xs) := by rcases rx with r | ⟨_, _, r⟩; exact r; exact r.elim
      obtain ⟨a, vs, rfl, ea, _, fa⟩ := rx.tup
      obtain ⟨⟨h1, h2, h3⟩, h4⟩ := h
      refine ⟨a, j, vs, rfl, ry.int, ea, h1, h2, by rw [fa.length]; exact h3, fun e => ?_, fun _ _ p o n ho => q _ _ _ _ h4 (.tup n ho ?_ (fa.rep _))⟩
      · have e0 : (List.replicate j.toNat xs).flatten = xs := by
          rcases e with e | e
          · subst e
            cases fa
            simp
          · subst e; simp
        exact q _ _ _ _ h4 (by rw [e0]; exact .old fx)
      · rw [PyProof.Rows.lm_len_rep_flat, sizeLine_eq, fa.length]
        have a1 : j.toNat * xs.length ≤ 1000 * 1000 := Nat.mul_le_mul (by omega) h3
        omega
    | _ => exact h.elim
  | _ => exact h.elim
theorem v_addS {k : Bool → D → Prop} (rx : Rp K H O x dx) (ry : Rp K H O y dy) (h : bopS .addS dx dy k) (q : ∀ fr d v H', k fr d → Res K H O fr d v H' → Q v H') :
    ∃ i j, x = .str i ∧ y = .str j ∧ i.length + j.length ≤ sizeLine ∧ Q (.str (i ++ j)) H := by
  cases dx with
  | str i => cases dy with
    | str j => exact ⟨i, j, rx.str, ry.str, fitsL.mp h.1, q _ _ _ _ h.2 (.old (.str _))⟩
    | _ => exact h.elim
  | _ => exact h.elim

/-! ### comparisons -/
theorem c_int {p : Int → Int → Bool} {c : Cop} {k : Bool → Prop} (rx : Rp K H O x dx) (ry : Rp K H O y dy) (h : cmpS c dx dy k) (hc : ∀ dx dy k, cmpS c dx dy k → ∃ i j, dx = .int i ∧ dy = .int j ∧ k (p i j)) (q : ∀ t, k t → Q (.bl t) H) : rI0 (fun i j => .bl (p i j)) x y H Q := by
  obtain ⟨i, j, rfl, rfl, hk⟩ := hc _ _ _ h
  exact ⟨i, j, rx.int, ry.int, q _ hk⟩
theorem v_eq {k : Bool → Prop} (rx : Rp K H O x dx) (ry : Rp K H O y dy) (h : cmpS .eq dx dy k) (q : ∀ t, k t → Q (.bl t) H) : rEqD K x y H Q :=
  ⟨dx, dy, rx.dp (noDict h.1), ry.dp (noDict h.2.1), h.1, h.2.1, q _ h.2.2⟩
theorem v_ne {k : Bool → Prop} (rx : Rp K H O x dx) (ry : Rp K H O y dy) (h : cmpS .ne dx dy k) (q : ∀ t, k t → Q (.bl t) H) : rNeD K x y H Q :=
  ⟨dx, dy, rx.dp (noDict h.1), ry.dp (noDict h.2.1), h.1, h.2.1, q _ h.2.2⟩
theorem v_eqI {k : Bool → Prop} (rx : Rp K H O x dx) (ry : Rp K H O y dy) (h : cmpS .eqI dx dy k) (q : ∀ t, k t → Q (.bl t) H) : rEq x y H Q := by
  cases dx with
  | int i => cases dy with
    | int j =>
      rw [rx.int, ry.int]
      refine ⟨rfl, ?_⟩
      have e : decide (V.int i = V.int j) = decide (i = j) := by rw [Bool.eq_iff_iff]; simp
      rw [e]; exact q _ h
    | _ => exact h.elim
  | _ => exact h.elim
theorem v_neI {k : Bool → Prop} (rx : Rp K H O x dx) (ry : Rp K H O y dy) (h : cmpS .neI dx dy k) (q : ∀ t, k t → Q (.bl t) H) : rNe x y H Q := by
  cases dx with
  | int i => cases dy with
    | int j =>
      rw [rx.int, ry.int]
      refine ⟨rfl, ?_⟩
      have e : decide (V.int i = V.int j) = decide (i = j) := by rw [Bool.eq_iff_iff]; simp
      rw [e]; exact q _ h
    | _ => exact h.elim
  | _ => exact h.elim
theorem v_eqS {k : Bool → Prop} (rx : Rp K H O x dx) (ry : Rp K H O y dy) (h : cmpS .eqS dx dy k) (q : ∀ t, k t → Q (.bl t) H) : rEq x y H Q := by
  cases dx with
  | str i => cases dy with
    | str j =>
      rw [rx.str, ry.str]
      refine ⟨rfl, ?_⟩
      have e : decide (V.str i = V.str j) = decide (i = j) := by rw [Bool.eq_iff_iff]; simp
      rw [e]; exact q _ h
    | _ => exact h.elim
  | _ => exact h.elim
theorem v_neS {k : Bool → Prop} (rx : Rp K H O x dx) (ry : Rp K H O y dy) (h : cmpS .neS dx dy k) (q : ∀ t, k t → Q (.bl t) H) : rNe x y H Q := by
  cases dx with
  | str i => cases dy with
    | str j =>
      rw [rx.str, ry.str]
      refine ⟨rfl, ?_⟩
      have e : decide (V.str i = V.str j) = decide (i = j) := by rw [Bool.eq_iff_iff]; simp
      rw [e]; exact q _ h
    | _ => exact h.elim
  | _ => exact h.elim
theorem flat_v : ∀ {v : V} {d : D}, Fz K H O v d → Flat d = true → flatV v = true
  | _, _, .non, _ => rfl
  | _, _, .bl _, _ => rfl
  | _, _, .int _, _ => rfl
  | _, _, .str _, _ => rfl
  | _, _, .lst .., h => by cases h
  | _, _, .tup .., h => by cases h
  | _, _, .tupK .., h => by cases h
  | _, _, .dic .., h => by cases h
theorem eqV_eqv {v u : V} {d e : D} (h1 : Fz K H O v d) (h2 : Fz K H O u e) (f1 : Flat d = true) (f2 : Flat e = true) : eqV v u = PyData.eqv d e := by
  cases h1 <;> cases h2 <;> first | (cases f1; done) | (cases f2; done) | simp [eqV, PyData.eqv]
theorem flats {vs : List V} {ds : List D} : FzL K H O vs ds → ds.all Flat = true → vs.all flatV = true
  | .nil, _ => rfl
  | .cons a b, h => by
    simp only [List.all_cons, Bool.and_eq_true] at h ⊢
    exact ⟨flat_v a h.1, flats b h.2⟩
theorem inV_any {v : V} {d : D} (hv : Fz K H O v d) (fd : Flat d = true) : ∀ {vs : List V} {ds : List D}, FzL K H O vs ds → ds.all Flat = true → inV v vs = ds.any fun y => PyData.eqv y d
  | _, _, .nil, _ => rfl
  | _, _, .cons a b, h => by
    simp only [List.all_cons, Bool.and_eq_true] at h
    have q := inV_any hv fd b h.2
    simp only [inV, List.any_cons] at q ⊢
    rw [eqV_eqv a hv h.1 fd, q]
theorem rp_flat {v : V} {d : D} (h : Rp K H O v d) (f : Flat d = true) : Fz K H O v d := by
  rcases h with h | ⟨a, rfl, h⟩
  · exact h
  · cases d <;> first | (cases f; done) | exact h.elim
theorem v_in {neg : Bool} {c : Cop} {k : Bool → Prop} (rx : Rp K H O x dx) (ry : Rp K H O y dy) (h : cmpS c dx dy k)
    (hc : ∀ dx dy k, cmpS c dx dy k → ∃ ys, items? dy = some ys ∧ Flat dx = true ∧ ys.all Flat = true ∧ k (if neg then !(ys.any fun y => PyData.eqv y dx) else ys.any fun y => PyData.eqv y dx)) (q : ∀ t, k t → Q (.bl t) H) : rIn K neg x y H Q := by
  obtain ⟨ys, e, f1, f2, h⟩ := hc _ _ _ h
  have fx := rp_flat rx f1
  have main : ∃ p vs, y = .ref p ∧ (SqL K H p vs ∨ SqT K H p vs) ∧ FzL K H O vs ys := by
    cases dy with
    | list zs => cases e; obtain ⟨p, vs, rfl, e, _, f⟩ := ry.list; exact ⟨p, vs, rfl, .inl (SqL.of e), f⟩
    | tuple zs => cases e; obtain ⟨p, vs, rfl, e, _, f⟩ := ry.tup; exact ⟨p, vs, rfl, .inr e, f⟩
    | _ => cases e
  obtain ⟨p, vs, rfl, hq, f⟩ := main
  refine ⟨p, vs, rfl, hq, flat_v fx f1, flats f f2, ?_⟩
  rw [inV_any fx f1 f f2]
  exact q _ h
theorem hc_in : ∀ dx dy k, cmpS .inQ dx dy k → ∃ ys, items? dy = some ys ∧ Flat dx = true ∧ ys.all Flat = true ∧ k (if false = true then !(ys.any fun y => PyData.eqv y dx) else ys.any fun y => PyData.eqv y dx) := by
  intro dx dy k h
  cases dy <;> simp only [cmpS] at h <;> first | exact ⟨_, rfl, h⟩ | exact h.elim
theorem hc_nin : ∀ dx dy k, cmpS .ninQ dx dy k → ∃ ys, items? dy = some ys ∧ Flat dx = true ∧ ys.all Flat = true ∧ k (if true = true then !(ys.any fun y => PyData.eqv y dx) else ys.any fun y => PyData.eqv y dx) := by
  intro dx dy k h
  cases dy <;> simp only [cmpS] at h <;> first | exact ⟨_, rfl, h⟩ | exact h.elim

/-! ### subscripts -/
theorem FzL.at {vs : List V} {ds : List D} {i : Int} {d : D} (f : FzL K H O vs ds) (h : at? ds i = some d) : ∃ v, atI vs i = some v ∧ Fz K H O v d := by
  unfold at? atI at h
  unfold atI
  rw [f.length]
  cases e : ixN ds.length i with
  | none => rw [e] at h; cases h
  | some j =>
    rw [e] at h
    exact f.get' h
theorem v_idx {k : D → Prop} (rx : Rp K H O x dx) (ry : Rp K H O y dy) (h : idxS dx dy k) (q : ∀ d v, k d → Fz K H O v d → Q v H) : rIx K x y H Q := by
  cases dx with
  | list xs => cases dy with
    | int i =>
      obtain ⟨d, hd, hk⟩ := h
      obtain ⟨p, vs, rfl, e, _, f⟩ := rx.list
      obtain ⟨v, hv, fv⟩ := f.at hd
      exact .inl ⟨p, vs, i, v, rfl, ry.int, SqL.of e, hv, q _ _ hk fv⟩
    | _ => exact h.elim
  | tuple xs => cases dy with
    | int i =>
      obtain ⟨d, hd, hk⟩ := h
      obtain ⟨p, vs, rfl, e, _, f⟩ := rx.tup
      obtain ⟨v, hv, fv⟩ := f.at hd
      exact .inr (.inl ⟨p, vs, i, v, rfl, ry.int, e, hv, q _ _ hk fv⟩)
    | _ => exact h.elim
  | _ => exact h.elim
end
end Ev
/-! EvBlt: built-in functions, slices, what is taken out of a list. -/
namespace Ev
open PySem PySem.Spec PyProof.Rows L2
section
variable {X : Cx} {C : Cc} {e a b : Expr} {es : List Expr} {pos : Pos} {wa wb wc : Wx}

theorem so_b1 {f : B1} {r : List V → Hp → VK → Prop} (hp : PE X e (tCB r (tCons (tE C wa) tNil)))
    (hr : ∀ (H : Hp) (O : Addr → Prop) (x : V) (dx : D) (k : Bool → D → Prop) (Q : VK), Rp C.K H O x dx → b1S f dx k → (∀ fr d v H', k fr d → Res C.K H O fr d v H' → Q v H') → r [x] H Q) :
    PE X e (tE C fun env k => wa env fun va e1 => with1 va e1 fun x => b1S f x fun fr d => k (rets fr d) e1) := by
  refine hp.weak fun σ H Q ⟨pn, env, O, k, K, W, q⟩ => ?_
  refine ⟨pn, env, O, _, K, W, fun va e1 x H1 O1 ⟨d, ed, w1⟩ k1 v1 s1 => ?_⟩
  refine hr H1 O1 x d _ Q (v1.rd k1 ed) w1 fun fr d v H3 w4 r3 => ?_
  obtain ⟨O3, k3, v3, s3⟩ := Res.ok k1 r3
  exact q _ _ _ _ _ w4 k3 v3 (s1.trans s3)
theorem so_b2 {f : B2} {r : List V → Hp → VK → Prop} (hp : PE X e (tCB r (tCons (tE C wa) (tCons (tE C wb) tNil))))
    (hr : ∀ (H : Hp) (O : Addr → Prop) (x y : V) (dx dy : D) (k : Bool → D → Prop) (Q : VK), Rp C.K H O x dx → Rp C.K H O y dy → b2S f dx dy k → (∀ fr d v H', k fr d → Res C.K H O fr d v H' → Q v H') → r [x, y] H Q) :
    PE X e (tE C fun env k => wa env fun va e1 => wb e1 fun vb e2 => with1 va e2 fun x => with1 vb e2 fun y => b2S f x y fun fr d => k (rets fr d) e2) := by
  refine hp.weak fun σ H Q ⟨pn, env, O, k, K, W, q⟩ => ?_
  refine ⟨pn, env, O, _, K, W, fun va e1 x H1 O1 w1 k1 v1 s1 => ?_⟩
  obtain ⟨O1', k1', s1', h1⟩ := v1.settle k1
  refine ⟨pn, e1, O1', _, k1', w1, fun vb e2 y H2 O2 w2 k2 v2 s2 => ?_⟩
  obtain ⟨dx, ex, dy, ey, w3⟩ := w2
  refine hr H2 O2 x y dx dy _ Q ((h1.step s2).rd k2 ex) (v2.rd k2 ey) w3 fun fr d v H3 w4 r3 => ?_
  obtain ⟨O3, k3, v3, s3⟩ := Res.ok k2 r3
  exact q _ _ _ _ _ w4 k3 v3 (s1.trans (s1'.trans (s2.trans s3)))
/-- isinstance(x, T) -/
theorem so_isi {f : B1} {T : String} {g : D → Bool} {r : List V → Hp → VK → Prop} (hp : PE X e (tCB r (tCons (tE C wa) (tCons (tC (.ty T)) tNil))))
    (hf : ∀ dx k, b1S f dx k → k false (.bool (g dx)))
    (hr : ∀ (H : Hp) (O : Addr → Prop) (x : V) (dx : D) (Q : VK), Rp C.K H O x dx → Q (.bl (g dx)) H → r [x, .ty T] H Q) :
    PE X e (tE C fun env k => wa env fun va e1 => with1 va e1 fun x => b1S f x fun fr d => k (rets fr d) e1) := by
  refine hp.weak fun σ H Q ⟨pn, env, O, k, K, W, q⟩ => ?_
  refine ⟨pn, env, O, _, K, W, fun va e1 x H1 O1 ⟨d, ed, w1⟩ k1 v1 s1 => ?_⟩
  exact hr H1 O1 x d Q (v1.rd k1 ed) (q _ _ _ _ _ (hf _ _ w1) k1 (.bl _) s1)

variable {K : PySem.W.Frag} {H H' : Hp} {O : Addr → Prop} {x y : V} {dx dy : D} {Q : VK} {k : Bool → D → Prop}
theorem rp_seq {xs : List D} (rx : Rp K H O x dx) (h : items? dx = some xs) : ∃ p vs, x = .ref p ∧ (SqL K H p vs ∨ SqT K H p vs) ∧ vs.length ≤ sizeLine ∧ FzL K H O vs xs := by
  cases dx with
  | list zs => cases h; obtain ⟨p, vs, rfl, e, z, f⟩ := rx.list; exact ⟨p, vs, rfl, .inl (SqL.of e), z, f⟩
  | tuple zs => cases h; obtain ⟨p, vs, rfl, e, z, f⟩ := rx.tup; exact ⟨p, vs, rfl, .inr e, z, f⟩
  | _ => cases h
theorem v_len (rx : Rp K H O x dx) (h : b1S .len dx k) (q : ∀ fr d v H', k fr d → Res K H O fr d v H' → Q v H') : ∃ p ys, [x] = [.ref p] ∧ (SqL K H p ys ∨ SqT K H p ys) ∧ Q (.int ys.length) H := by
  have main : ∃ xs, items? dx = some xs ∧ k false (.int xs.length) := by cases dx <;> first | exact ⟨_, rfl, h⟩ | exact h.elim
  obtain ⟨xs, e, hk⟩ := main
  obtain ⟨p, vs, rfl, hq, _, f⟩ := rp_seq rx e
  exact ⟨p, vs, rfl, hq, q _ _ _ _ hk (by rw [f.length]; exact .old (.int _))⟩
theorem v_tup (f : B1) (hf : f = .tupL ∨ f = .tupT) (rx : Rp K H O x dx) (h : b1S f dx k) (q : ∀ fr d v H', k fr d → Res K H O fr d v H' → Q v H') :
    ∃ p ys, [x] = [.ref p] ∧ ((SqL K H p ys ∧ ∀ (l : Addr) (o : Obj), H l = none → Bare o → Q (.ref l) (upd H l (.frz o (.tup ys)))) ∨ (SqT K H p ys ∧ Q (.ref p) H)) := by
  rcases hf with rfl | rfl
  · cases dx with
    | list xs => obtain ⟨p, vs, rfl, e, z, f⟩ := rx.list; exact ⟨p, vs, rfl, .inl ⟨SqL.of e, fun l o n ho => q _ _ _ _ h (.tup n ho z f)⟩⟩
    | _ => exact h.elim
  · cases dx with
    | tuple xs =>
      have fx : Fz K H O x (.tuple xs) := by rcases rx with r | ⟨_, _, r⟩; exact r; exact r.elim
      obtain ⟨p, vs, rfl, e, z, f⟩ := rx.tup
      exact ⟨p, vs, rfl, .inr ⟨e, q _ _ _ _ h (.old fx)⟩⟩
    | _ => exact h.elim
theorem v_lst (rx : Rp K H O x dx) (h : b1S .lstQ dx k) (q : ∀ fr d v H', k fr d → Res K H O fr d v H' → Q v H') :
    ∃ p ys, [x] = [.ref p] ∧ (SqL K H p ys ∨ SqT K H p ys) ∧ ∀ l, H l = none → Q (.ref l) (upd H l (.lst ys)) := by
  have main : ∃ xs, items? dx = some xs ∧ k true (.list xs) := by cases dx <;> first | exact ⟨_, rfl, h⟩ | exact h.elim
  obtain ⟨xs, e, hk⟩ := main
  obtain ⟨p, vs, rfl, hq, z, f⟩ := rp_seq rx e
  exact ⟨p, vs, rfl, hq, fun l n => q _ _ _ _ hk (.lst n z f)⟩
theorem v_int (f : B1) (hf : f = .intI ∨ f = .intB) (rx : Rp K H O x dx) (h : b1S f dx k) (q : ∀ fr d v H', k fr d → Res K H O fr d v H' → Q v H') :
    (∃ i, [x] = [.int i] ∧ Q (.int i) H) ∨ ∃ b, [x] = [.bl b] ∧ Q (.int (if b then 1 else 0)) H := by
  rcases hf with rfl | rfl
  · cases dx with
    | int i => exact .inl ⟨i, by rw [rx.int], q _ _ _ _ h (.old (.int _))⟩
    | _ => exact h.elim
  · cases dx with
    | bool i => exact .inr ⟨i, by rw [rx.bool], q _ _ _ _ h (.old (.int _))⟩
    | _ => exact h.elim
theorem v_abs (rx : Rp K H O x dx) (h : b1S .abs dx k) (q : ∀ fr d v H', k fr d → Res K H O fr d v H' → Q v H') : ∃ i, [x] = [.int i] ∧ Q (.int (if i < 0 then -i else i)) H := by
  cases dx with
  | int i => exact ⟨i, by rw [rx.int], q _ _ _ _ h (.old (.int _))⟩
  | _ => exact h.elim
theorem v_all (rx : Rp K H O x dx) (h : b1S .all dx k) (q : ∀ fr d v H', k fr d → Res K H O fr d v H' → Q v H') : rAll K [x] H Q := by
  cases dx with
  | list xs =>
    obtain ⟨bs, e, hk⟩ := h
    obtain ⟨p, vs, rfl, e1, z, f⟩ := rx.list
    have := f.bools e
    subst this
    exact ⟨p, bs, rfl, SqL.of e1, q _ _ _ _ hk (.old (.bl _))⟩
  | _ => exact h.elim
theorem v_sum (rx : Rp K H O x dx) (h : b1S .sum dx k) (q : ∀ fr d v H', k fr d → Res K H O fr d v H' → Q v H') : rSum K [x] H Q := by
  cases dx with
  | list xs =>
    obtain ⟨bs, e, hk⟩ := h
    obtain ⟨p, vs, rfl, e1, z, f⟩ := rx.list
    have := f.ints e
    subst this
    exact ⟨p, bs, rfl, SqL.of e1, q _ _ _ _ hk (.old (.int _))⟩
  | _ => exact h.elim
theorem v_max (rx : Rp K H O x dx) (h : b1S .maxL dx k) (q : ∀ fr d v H', k fr d → Res K H O fr d v H' → Q v H') : rMax K [x] H Q := by
  cases dx with
  | list xs =>
    obtain ⟨bs, e, h0, hk⟩ := h
    obtain ⟨p, vs, rfl, e1, z, f⟩ := rx.list
    have := f.ints e
    subst this
    exact ⟨p, bs, rfl, SqL.of e1, h0, fun m h1 h2 => q _ _ _ _ (hk m h1 h2) (.old (.int _))⟩
  | _ => exact h.elim
theorem v_min (rx : Rp K H O x dx) (h : b1S .minL dx k) (q : ∀ fr d v H', k fr d → Res K H O fr d v H' → Q v H') : rMin K [x] H Q := by
  cases dx with
  | list xs =>
    obtain ⟨bs, e, h0, hk⟩ := h
    obtain ⟨p, vs, rfl, e1, z, f⟩ := rx.list
    have := f.ints e
    subst this
    exact ⟨p, bs, rfl, SqL.of e1, h0, fun m h1 h2 => q _ _ _ _ (hk m h1 h2) (.old (.int _))⟩
  | _ => exact h.elim
theorem v_sortI (rx : Rp K H O x dx) (h : b1S .sortI dx k) (q : ∀ fr d v H', k fr d → Res K H O fr d v H' → Q v H') : rSortedI K [x] H Q := by
  cases dx with
  | list xs =>
    obtain ⟨bs, e, hk⟩ := h
    obtain ⟨p, vs, rfl, e1, z, f⟩ := rx.list
    have := f.ints e
    subst this
    refine ⟨p, bs, rfl, SqL.of e1, fun ms l pm pw n => q _ _ _ _ (hk ms pm pw) (.lst n ?_ (FzL.of_ints ms))⟩
    rw [List.length_map, pm.length_eq]
    simpa using z
  | _ => exact h.elim
theorem v_max2 (rx : Rp K H O x dx) (ry : Rp K H O y dy) (h : b2S .max2 dx dy k) (q : ∀ fr d v H', k fr d → Res K H O fr d v H' → Q v H') : ∃ i j, [x, y] = [.int i, .int j] ∧ Q (.int (if j > i then j else i)) H := by
  cases dx with
  | int i => cases dy with
    | int j => exact ⟨i, j, by rw [rx.int, ry.int], q _ _ _ _ h (.old (.int _))⟩
    | _ => exact h.elim
  | _ => exact h.elim
theorem v_min2 (rx : Rp K H O x dx) (ry : Rp K H O y dy) (h : b2S .min2 dx dy k) (q : ∀ fr d v H', k fr d → Res K H O fr d v H' → Q v H') : ∃ i j, [x, y] = [.int i, .int j] ∧ Q (.int (if j < i then j else i)) H := by
  cases dx with
  | int i => cases dy with
    | int j => exact ⟨i, j, by rw [rx.int, ry.int], q _ _ _ _ h (.old (.int _))⟩
    | _ => exact h.elim
  | _ => exact h.elim
theorem v_gcd (rx : Rp K H O x dx) (ry : Rp K H O y dy) (h : b2S .gcd dx dy k) (q : ∀ fr d v H', k fr d → Res K H O fr d v H' → Q v H') : rGcd [x, y] H Q := by
  cases dx with
  | int i => cases dy with
    | int j => exact ⟨i, j, by rw [rx.int, ry.int], q _ _ _ _ h (.old (.int _))⟩
    | _ => exact h.elim
  | _ => exact h.elim
/-- a value's type -/
theorem ty_of (rx : Rp K H O x dx) : ∃ t, TyX K H x (.type t) ∧ ((t = "NoneType" ∧ dx = .none) ∨ (t = "bool" ∧ ∃ b, dx = .bool b) ∨ (t = "int" ∧ ∃ i, dx = .int i) ∨ (t = "str" ∧ ∃ i, dx = .str i) ∨ (t = "list" ∧ ∃ i, dx = .list i) ∨ (t = "tuple" ∧ ∃ i, dx = .tuple i) ∨ (t = "dict" ∧ ∃ i, dx = .dict i)) := by
  cases dx with
  | none => exact ⟨"NoneType", by rw [rx.none]; exact .base .non, .inl ⟨rfl, rfl⟩⟩
  | bool b => exact ⟨"bool", by rw [rx.bool]; exact .base (.bl b), .inr (.inl ⟨rfl, b, rfl⟩)⟩
  | int b => exact ⟨"int", by rw [rx.int]; exact .base (.int b), .inr (.inr (.inl ⟨rfl, b, rfl⟩))⟩
  | str b => exact ⟨"str", by rw [rx.str]; exact .base (.str b), .inr (.inr (.inr (.inl ⟨rfl, b, rfl⟩)))⟩
  | list b => obtain ⟨p, vs, rfl, e, _⟩ := rx.list; exact ⟨"list", .base (.lst e), .inr (.inr (.inr (.inr (.inl ⟨rfl, b, rfl⟩))))⟩
  | tuple b =>
    refine ⟨"tuple", ?_, .inr (.inr (.inr (.inr (.inr (.inl ⟨rfl, b, rfl⟩)))))⟩
    obtain ⟨p, vs, rfl, e, _⟩ := rx.tup
    rcases e with (e | ⟨o, e⟩) | ⟨o, its, n, e, c, _⟩
    · exact .base (.tup e)
    · exact .fTuple e
    · exact .kTuple e c
  | dict b => obtain ⟨p, vs, rfl, e, _⟩ := rx.dict; exact ⟨"dict", .base (.dK e), .inr (.inr (.inr (.inr (.inr (.inr ⟨rfl, b, rfl⟩)))))⟩
theorem v_isT (rx : Rp K H O x dx) (q : Q (.bl (isTupD dx)) H) : rIsi K [x, .ty "tuple"] H Q := by
  obtain ⟨t, ht, h⟩ := ty_of rx
  rcases h with ⟨rfl, rfl⟩ | ⟨rfl, _, rfl⟩ | ⟨rfl, _, rfl⟩ | ⟨rfl, _, rfl⟩ | ⟨rfl, _, rfl⟩ | ⟨rfl, _, rfl⟩ | ⟨rfl, _, rfl⟩ <;>
    first
    | exact ⟨_, _, _, _, true, rfl, .ty _, ht, kit_ty (by decide +kernel), q⟩
    | exact ⟨_, _, _, _, false, rfl, .ty _, ht, kit_ty (by decide +kernel), q⟩
theorem v_isI (rx : Rp K H O x dx) (q : Q (.bl (isIntD dx)) H) : rIsi K [x, .ty "int"] H Q := by
  obtain ⟨t, ht, h⟩ := ty_of rx
  rcases h with ⟨rfl, rfl⟩ | ⟨rfl, _, rfl⟩ | ⟨rfl, _, rfl⟩ | ⟨rfl, _, rfl⟩ | ⟨rfl, _, rfl⟩ | ⟨rfl, _, rfl⟩ | ⟨rfl, _, rfl⟩ <;>
    first
    | exact ⟨_, _, _, _, true, rfl, .ty _, ht, kit_ty (by decide +kernel), q⟩
    | exact ⟨_, _, _, _, false, rfl, .ty _, ht, kit_ty (by decide +kernel), q⟩
theorem v_isB (rx : Rp K H O x dx) (q : Q (.bl (isBoolD dx)) H) : rIsi K [x, .ty "bool"] H Q := by
  obtain ⟨t, ht, h⟩ := ty_of rx
  rcases h with ⟨rfl, rfl⟩ | ⟨rfl, _, rfl⟩ | ⟨rfl, _, rfl⟩ | ⟨rfl, _, rfl⟩ | ⟨rfl, _, rfl⟩ | ⟨rfl, _, rfl⟩ | ⟨rfl, _, rfl⟩ <;>
    first
    | exact ⟨_, _, _, _, true, rfl, .ty _, ht, kit_ty (by decide +kernel), q⟩
    | exact ⟨_, _, _, _, false, rfl, .ty _, ht, kit_ty (by decide +kernel), q⟩
theorem v_isS (rx : Rp K H O x dx) (q : Q (.bl (isStrD dx)) H) : rIsi K [x, .ty "str"] H Q := by
  obtain ⟨t, ht, h⟩ := ty_of rx
  rcases h with ⟨rfl, rfl⟩ | ⟨rfl, _, rfl⟩ | ⟨rfl, _, rfl⟩ | ⟨rfl, _, rfl⟩ | ⟨rfl, _, rfl⟩ | ⟨rfl, _, rfl⟩ | ⟨rfl, _, rfl⟩ <;>
    first
    | exact ⟨_, _, _, _, true, rfl, .ty _, ht, kit_ty (by decide +kernel), q⟩
    | exact ⟨_, _, _, _, false, rfl, .ty _, ht, kit_ty (by decide +kernel), q⟩

/-! ### repr -/
def rRepr (K : PySem.W.Frag) : List V → Hp → VK → Prop := fun xs H Q => ∃ x d, xs = [x] ∧ Dp K H x d ∧ Shows d ∧ Q (.str d.shown) H
theorem call_repr_data (hg : X.A.guards = some []) (hu : X.A.units + 64 < cLine) : CallR X (.builtin "repr") (rRepr X.K) := by
  intro pins s σ H xs us Q I r h
  obtain ⟨x, d, rfl, hd, ⟨sh, nd, dp, sz⟩, q⟩ := h
  obtain ⟨u, rfl, rx⟩ := Vals.one r
  obtain ⟨as, rd⟩ := Dp.reads I d x u hd rx
  have sz' : d.shown.length ≤ sizeLine := by rw [sizeLine_eq]; exact sz
  have fin : ∀ h' t tk, (∀ b o, s.heap.get? b = some o → h'.get? b = some o) → EP X pins σ Q (.str d.shown t) { s with heap := h', toks := tk } :=
    fun h' t tk hk => ⟨.str d.shown, H, I.kept (t' := tk) hk, ⟨t, rfl⟩, q⟩
  cases hd with
  | lst hs ha =>
    cases rx
    exact repr_of_reads' rd sh (PyData.noDict_hsm nd) hg (by omega) (fun _ _ e => e) fin sz'
  | tup hs ha =>
    cases rx
    exact repr_of_reads' rd sh (PyData.noDict_hsm nd) hg (by omega) (fun _ _ e => e) fin sz'
  | non => cases rx; exact PySem.P.repr_of_none (fin s.heap _ _ fun _ _ e => e)
  | bl b => cases rx; exact PySem.P.repr_of_bool (fin s.heap _ _ fun _ _ e => e)
  | int i => obtain ⟨t, rfl⟩ := rx; exact PySem.P.repr_of_int (by simpa [PyData.showable] using sh) (fin s.heap _ _ fun _ _ e => e)
  | str z => obtain ⟨t, rfl⟩ := rx; exact PySem.P.repr_of_str (fin s.heap _ _ fun _ _ e => e) (by simpa [PyData.shown] using sz')
theorem v_repr (rx : Rp K H O x dx) (h : b1S .repr dx k) (q : ∀ fr d v H', k fr d → Res K H O fr d v H' → Q v H') : rRepr K [x] H Q := by
  have h : Shows dx ∧ k false (.str dx.shown) := by cases dx <;> exact h
  exact ⟨x, dx, rfl, rx.dp h.1.2.1, h.1, q _ _ _ _ h.2 (.old (.str _))⟩
end
end Ev
/-! EvSlc: slices, things turned about, things taken out of a list of one's own, calls of defs. -/
namespace Ev
open PySem PySem.Spec PyProof.Rows L2

/-! ### slices -/
/-- a part of a slice, there or not: what follows holds for its number -/
def tO' (C : Cc) (l : Bool) (W : Wx) : TO := fun σ H Q => ∃ (pn : List (Addr × HO)) (env : Ev) (O : Addr → Prop) (k : Option Int → Ev → Prop), Ok8 C C.so pn σ H env O ∧ W env (fun vl e => ∃ p, partOf l vl = some p ∧ k p e) ∧
  ∀ p env' H' O', k p env' → Ok8 C C.so pn σ H' env' O' → Step H O H' O' → Q p H'
section
variable {X : Cx} {C : Cc} {e a b : Expr} {es : List Expr} {pos p2 : Pos} {wa wb wc wl wh : Wx} {lo hi : Option Expr}
theorem so_none (F : Fns) : PO X none (tO' C false (w F .nil)) := by
  refine ⟨fun pins s σ H Q I h => po_none.run pins s σ H Q I ?_⟩
  obtain ⟨pn, env, O, k, K, ⟨p, e, W⟩, q⟩ := h
  cases e
  exact q _ _ _ _ W K .refl
theorem so_some (h : PE X e (tE C wa)) : PO X (some e) (tO' C true wa) := by
  refine ⟨fun pins s σ H Q I hw => (po_some h).run pins s σ H Q I ?_⟩
  obtain ⟨pn, env, O, k, K, W, q⟩ := hw
  refine ⟨pn, env, O, _, K, W, fun vl env' v H' O' ⟨p, e, w1⟩ k1 v1 s1 => ?_⟩
  cases vl with
  | fz d =>
    cases d with
    | int i => cases e; cases (show Fz C.K H' O' v (.int i) from v1); exact ⟨i, rfl, q _ _ _ _ w1 k1 s1⟩
    | _ => cases e
  | _ => cases e
theorem cut_fz {K : PySem.W.Frag} {H : Hp} {O : Addr → Prop} {vs : List V} {ds : List D} (f : FzL K H O vs ds) (lo hi : Option Int) : FzL K H O (cutV vs lo hi) (cut ds lo hi) := by
  unfold cutV cut
  rw [f.length]
  exact (f.drop _).take _
/-- a slice of a list or a tuple -/
theorem sl_any : SlR X (fun x lo hi H Q => rSlL X.K x lo hi H Q ∨ rSlF X.K x lo hi H Q) := sl_list.or sl_tupF
theorem so_slc {l h : Bool} (hK : X.K = C.K) (ha : PE X a (tE C wa)) (hl : PO X lo (tO' C l wl)) (hh : PO X hi (tO' C h wh)) :
    PE X (.Subscript a (.Slice lo hi none p2) pos) (tE C fun env k => wa env fun va e1 => wl e1 fun vl e2 => ∃ p, partOf l vl = some p ∧ wh e2 fun vh e3 => ∃ q, partOf h vh = some q ∧ with1 va e3 fun x => slcS x p q fun fr d => k (rets fr d) e3) := by
  refine (pe_slice sl_any ha hl hh).weak fun σ H Q ⟨pn, env, O, k, K, W, q⟩ => ?_
  refine ⟨pn, env, O, _, K, W, fun va e1 x H1 O1 w1 k1 v1 s1 => ?_⟩
  obtain ⟨O1', k1', s1', h1⟩ := v1.settle k1
  refine ⟨pn, e1, O1', _, k1', w1, fun p e2 H2 O2 w2 k2 s2 => ⟨pn, e2, O2, _, k2, w2, fun r e3 H3 O3 w3 k3 s3 => ?_⟩⟩
  obtain ⟨d, ed, w4⟩ := w3
  have rx := ((h1.step s2).step s3).rd k3 ed
  have done : ∀ fr d v H4, k (rets fr d) e3 → Res C.K H3 O3 fr d v H4 → Q v H4 := fun fr d v H4 w5 r5 => by
    obtain ⟨O5, k5, v5, s5⟩ := Res.ok k3 r5
    exact q _ _ _ _ _ w5 k5 v5 (s1.trans (s1'.trans (s2.trans (s3.trans s5))))
  cases d with
  | list xs =>
    obtain ⟨a, vs, rfl, ea, z, f⟩ := rx.list
    exact .inl ⟨a, vs, rfl, SqL.of ea, fun p' n => done _ _ _ _ w4 (.lst n (Nat.le_trans (cutV_length _ _ _) z) (cut_fz f _ _))⟩
  | tuple xs =>
    have fx : Fz C.K H3 O3 x (.tuple xs) := by rcases rx with r | ⟨_, _, r⟩; exact r; exact r.elim
    obtain ⟨a, vs, rfl, ea, z, f⟩ := rx.tup
    refine .inr ⟨a, vs, rfl, by rw [hK]; exact ea, fun hw => ?_, fun hw p' o n ho => done _ _ _ _ w4 (.tup n ho (Nat.le_trans (cutV_length _ _ _) z) (cut_fz f _ _))⟩
    have e0 : cut xs p r = xs := by
      unfold cut
      rw [← f.length, hw.1, hw.2, List.drop_zero, Nat.sub_zero, f.length, List.take_length]
    have w5 : k (rets false (.tuple (cut xs p r))) e3 := w4
    rw [e0] at w5
    exact done _ _ _ _ w5 (.old fx)
  | _ => exact w4.elim

/-! ### x[::-1] -/
theorem so_revL {k : Nat} {p1 p2 p3 : Pos} (hK : X.K = C.K) (ha : PE X a (tE C wa)) : PE X (.Subscript a (.Slice none none (some (.UnaryOp .USub (.Constant (.int 1) k p1) p2)) p3) pos)
    (tE C fun env k => wa env fun va e1 => with1 va e1 fun x => ∃ xs, x = .list xs ∧ k (.fr (.list xs.reverse)) e1) := by
  refine (pe_revL ha).weak fun σ H Q ⟨pn, env, O, k, K, W, q⟩ => ?_
  refine ⟨pn, env, O, _, K, W, fun va e1 x H1 O1 w1 k1 v1 s1 => ?_⟩
  obtain ⟨d, ed, xs, rfl, w2⟩ := w1
  obtain ⟨a, vs, rfl, ea, z, f⟩ := (v1.rd k1 ed).list
  refine ⟨a, vs, rfl, SqL.of ea, fun p n => ?_⟩
  obtain ⟨O5, k5, v5, s5⟩ := Res.ok k1 (.lst n (by rw [List.length_reverse]; exact z) f.reverse)
  exact q _ _ _ _ _ w2 k5 v5 (s1.trans s5)

/-! ### things taken out of one's own list -/
theorem own_of {pn : List (Addr × HO)} {σ : Sg} {H : Hp} {env : Ev} {O : Addr → Prop} {i : Nat} {d : D} (K : Ok8 C C.so pn σ H env O) (e : env.getD i .no = .ow d) : ∃ p, OwnAt σ env i p ∧ O p ∧ Cell C.K H O p d := by
  have sl := K.slot i
  rw [e] at sl
  obtain ⟨p, e1, x, n, c⟩ := sl
  exact ⟨p, ⟨by rw [e]; rfl, e1⟩, x, c⟩
theorem list_upd {K : PySem.W.Frag} {H : Hp} {O : Addr → Prop} {p : Addr} {vs : List V} {ds : List D} (op : O p) (z : vs.length ≤ sizeLine) (f : FzL K H O vs ds) : Cell K (upd H p (.lst vs)) O p (.list ds) :=
  ⟨vs, upd_same, z, FzL.step (step_write op) f⟩
theorem so_pop0 {i : Nat} {x : Str} {p2 apos : Pos} (hN : X.N[i]? = some x) (hv : Vis X.env.scope x) (hd : (x == ("__debug__" : Str)) = false) (hc : (x == ("__classdict__" : Str)) = false) (F : Fns) (hl : (apos.endLine == pos.line) = true) :
    PE X (.Call (.Attribute (.Name x p2) "pop" apos) [] [] pos) (tE C (w F (.pop0 i))) := by
  refine (pe_bm0 PySem.F.plainAttrs_list PySem.F.slot_list_pop PySem.F.type_list_pop mt_pop (pe_var hN hv hd hc) rfl hl).weak fun σ H Q ⟨pn, env, O, k, K, W, q⟩ => ?_
  simp only [w] at W
  cases hs : env.getD i .no with
  | ow d =>
    simp only [hs] at W
    cases d with
    | list xs =>
      obtain ⟨d, ed, W⟩ := W
      obtain ⟨p, own, op, vs, ep, z, f⟩ := own_of K hs
      have hl : vs[vs.length - 1]? = vs.getLast? := by rw [List.getLast?_eq_getElem?]
      have hl2 : xs.getLast? = xs[xs.length - 1]? := by rw [List.getLast?_eq_getElem?]
      rw [hl2, ← f.length] at ed
      obtain ⟨v, ev, fv⟩ := f.get' ed
      refine ⟨_, own.2, .inl ⟨rfl, vs, SqL.of ep⟩, p, vs, v, rfl, rfl, ep, ev, ?_⟩
      exact q _ _ _ _ _ W (K.write own (list_upd op (by rw [List.length_dropLast]; omega) f.dropLast)) (fv.step (step_write op)) (step_write op)
    | _ => exact W.elim
  | _ => simp only [hs] at W
theorem so_pop1 {i : Nat} {x : Str} {p2 apos : Pos} (hN : X.N[i]? = some x) (hv : Vis X.env.scope x) (hd : (x == ("__debug__" : Str)) = false) (hc : (x == ("__classdict__" : Str)) = false) (hl : (apos.endLine == pos.line) = true) (ha : PE X a (tE C wa))
    (hs : starEach [a] X.env = [(false, eval a X.env)]) :
    PE X (.Call (.Attribute (.Name x p2) "pop" apos) [a] [] pos) (tE C fun env k => (∃ ys, env.getD i .no = .ow (.list ys)) ∧ wa env fun va e1 => ∃ j : Int, va = .fz (.int j) ∧ (match e1.getD i .no with
      | .ow (.list xs) => ∃ d, 0 ≤ j ∧ j < 1000000000 ∧ xs[j.toNat]? = some d ∧ k (.fz d) (e1.set i (.ow (.list (xs.eraseIdx j.toNat))))
      | _ => False)) := by
  refine (pe_bm PySem.F.plainAttrs_list PySem.F.slot_list_pop PySem.F.type_list_pop mt_popAt (pe_var hN hv hd hc) (pa_cons ha pa_nil hs) rfl (by rw [hs]; rfl) hl hs rfl).weak fun σ H Q ⟨pn, env, O, k, K, ⟨⟨ys, ey⟩, W⟩, q⟩ => ?_
  obtain ⟨p, own, op, us, ep0, _⟩ := own_of K ey
  refine ⟨_, own.2, .inl ⟨rfl, us, SqL.of ep0⟩, pn, env, O, _, K, W, fun va e1 y H1 O1 ⟨j, ej, w1⟩ k1 v1 s1 => ?_⟩
  subst ej
  cases (show Fz C.K H1 O1 y (.int j) from v1)
  cases hs1 : e1.getD i .no with
  | ow d =>
    simp only [hs1] at w1
    cases d with
    | list xs =>
      obtain ⟨d, j0, j1, ed, w2⟩ := w1
      obtain ⟨p', own', op', vs, ep, z, f⟩ := own_of k1 hs1
      have : p' = p := by have := own'.2.symm.trans own.2; cases this; rfl
      subst this
      obtain ⟨v, ev, fv⟩ := f.get' ed
      have hlt : j.toNat < vs.length := (List.getElem?_eq_some_iff.mp ev).1
      have hseq : seqIndex? j vs.length = some j.toNat := by
        have : ixN vs.length j = some j.toNat := by unfold ixN; rw [if_pos j0, if_pos (by omega)]
        exact (ixN_seq this).1
      refine ⟨p', vs, j, j.toNat, v, rfl, rfl, ep, by omega, by omega, hseq, ev, ?_⟩
      exact q _ _ _ _ _ w2 (k1.write own' (list_upd op' (Nat.le_trans (len_erase _ _) z) (f.eraseIdx _))) (fv.step (step_write op')) (s1.trans (step_write op'))
    | _ => exact w1.elim
  | _ => simp only [hs1] at w1
end
end Ev
set_option maxHeartbeats 4000000
/-! EvMore1: list(range(..)), parts of tuples by steps, index, dicts. -/
namespace Ev
open PySem PySem.Spec PyProof.Rows L2

/-! ### list(range(..)), tuple(range(..)) -/
section
variable {X : Cx} {C : Cc} {e a b : Expr} {es : List Expr} {pos p2 : Pos} {wa wb wc wl wh : Wx} {lo hi : Option Expr}
/-- the three forms of range's arguments -/
def RgA (vs : List V) (i j c : Int) : Prop := (vs = [.int j] ∧ i = 0 ∧ c = 1) ∨ (vs = [.int i, .int j] ∧ c = 1) ∨ vs = [.int i, .int j, .int c]
def rgD (i c : Int) (n : Nat) : List D := rngL i n c
theorem pe_rngA {ta : TA} {p pos : Pos} (hg : Gl X "range") (hm : X.mg "range" = none) (ha : PA X (e :: es) ta)
    (hs : starEach (e :: es) X.env = (false, eval e X.env) :: starEach es X.env) (hpl : (backTo pos (starEach es X.env)).any (·.1) = false) (pins : List (Addr × Obj)) (s : Shared) (σ : Sg) (H : Hp) (Q : Int → Int → Nat → Hp → Prop) (I : Inv X pins σ H s)
    (h : ta σ H fun vs H1 => ∃ i j c n, RgA vs i j c ∧ RgC i j c n ∧ Q i c n H1) :
    wpAny (model X.prog X.w) X.A (eval (.Call (.Name "range" p) (e :: es) [] pos) X.env) (fun x s' => ∃ r i j c n t u v H', x = .ref r ∧ IsRange s'.heap r i j c t u v ∧ RgC i j c n ∧ Inv X pins σ H' s' ∧ Q i c n H') X.xe s := by
  refine Call_ (ld_blt I hg hm boot_range (PyProof.Rows.callWith_type1 (thn (ha.run pos pins s σ H _ I h) fun us s1 ⟨vs, H1, I1, r1, q1⟩ => ?_) hs hpl))
  obtain ⟨i, j, c, n, ea, rc, q⟩ := q1
  rcases ea with ⟨rfl, rfl, rfl⟩ | ⟨rfl, rfl⟩ | rfl
  · cases r1 with
    | cons r rr =>
      cases rr
      obtain ⟨t, rfl⟩ := r
      exact call_range_1 ⟨_, 0, j, 1, n, _, _, _, H1, rfl, IsRange.new _ _ _ _ _ _ _, rc, I1.kept fun b u e => Heap.get?_push_of_some _ e, q⟩
  · cases r1 with
    | cons r rr =>
      cases rr with
      | cons r' rr =>
        cases rr
        obtain ⟨t, rfl⟩ := r
        obtain ⟨t', rfl⟩ := r'
        exact call_range_2 ⟨_, i, j, 1, n, _, _, _, H1, rfl, IsRange.new _ _ _ _ _ _ _, rc, I1.kept fun b u e => Heap.get?_push_of_some _ e, q⟩
  · cases r1 with
    | cons r rr =>
      cases rr with
      | cons r' rr =>
        cases rr with
        | cons r'' rr =>
          cases rr
          obtain ⟨t, rfl⟩ := r
          obtain ⟨t', rfl⟩ := r'
          obtain ⟨t'', rfl⟩ := r''
          refine call_range_3 rc.1 ?_ (.inl (PyProof.noPylong_small rc.2.1))
          exact ⟨_, i, j, c, n, _, _, _, H1, rfl, IsRange.new _ _ _ _ _ _ _, rc, I1.kept fun b u e => Heap.get?_push_of_some _ e, q⟩
def rgVc (i c : Int) (n : Nat) : List V := (List.range n).map fun k => V.int (i + (k : Nat) * c)
theorem rgVc_length (i c : Int) (n : Nat) : (rgVc i c n).length = n := by simp [rgVc]
theorem vals_rgc {i c : Int} {n : Nat} {acc : Array Value} (h : ItemsOf (fun k v => ∃ t, v = .int (i + k * c) t) acc n) : Vals (rgVc i c n) acc.toList := by
  have e : acc.toList.length = n := by rw [Array.length_toList]; exact h.1
  unfold rgVc
  rw [← e]
  refine vals_of_get acc.toList _ fun j u hj => ?_
  obtain ⟨t, rfl⟩ := h.2 j u (by rw [← hj, Array.getElem?_toList])
  exact ⟨t, rfl⟩
theorem fz_rgc {K : PySem.W.Frag} {H : Hp} {O : Addr → Prop} {i c : Int} {n : Nat} : FzL K H O (rgVc i c n) (rngL i n c) := by
  have : ∀ l : List Nat, FzL K H O (l.map fun k => V.int (i + (k : Nat) * c)) (l.map fun (k : Nat) => PyData.int (i + (k : Int) * c)) := fun l => by
    induction l with
    | nil => exact .nil
    | cons a r ih => exact .cons (.int _) ih
  exact this _
theorem rgC_one {i j : Int} (h1 : -1000000 ≤ i) (h2 : i ≤ 1000000) (h3 : -1000000 ≤ j) (h4 : j ≤ 1000000) : RgC i j 1 (j - i).toNat :=
  ⟨by decide, by decide, small_one (by omega) (by omega) (by omega) (by omega), rangeSize_nat i j⟩
/-- what the reading of rngOf tells of the machine's range -/
theorem rngOf_read {n : Nat} {xs : List D} {vs : List V} {k : List D → Prop} {K : PySem.W.Frag} {H : Hp} {O : Addr → Prop} (f : FzL K H O vs xs) (h : rngOf n xs k) : ∃ i j c m, RgA vs i j c ∧ RgC i j c m ∧ m ≤ 2 ^ 24 ∧ k (rngL i m c) := by
  unfold rngOf at h
  split at h
  · cases f with
    | cons f1 f2 =>
      cases f2
      cases f1
      rename_i j
      obtain ⟨⟨h1, h2⟩, h⟩ := h
      refine ⟨0, j, 1, j.toNat, .inl ⟨rfl, rfl, rfl⟩, ?_, by omega, h⟩
      have := rgC_one (i := 0) (j := j) (by omega) (by omega) (by omega) (by omega)
      simpa using this
  · cases f with
    | cons f1 f2 =>
      cases f2 with
      | cons f2 f3 =>
        cases f3
        cases f1
        cases f2
        rename_i i j
        obtain ⟨⟨h1, h2, h3, h4⟩, h⟩ := h
        exact ⟨i, j, 1, (j - i).toNat, .inr (.inl ⟨rfl, rfl⟩), rgC_one h1 h2 h3 h4, by omega, h⟩
  · cases f with
    | cons f1 f2 =>
      cases f2 with
      | cons f2 f3 =>
        cases f3 with
        | cons f3 f4 =>
          cases f4
          cases f1
          cases f2
          cases f3
          rename_i i j
          obtain ⟨⟨h1, h2, h3, h4⟩, h⟩ := h
          exact ⟨i, j, -1, (i - j).toNat, .inr (.inr rfl), RgC.neg (by omega) (by omega) (by omega) (by omega), by omega, h⟩
  · exact h.elim
theorem so_lrng {l : Bool} {nm : Str} {n : Nat} {p p1 pos1 : Pos} (hnm : (l = true ∧ nm = ("list" : Str)) ∨ (l = false ∧ nm = ("tuple" : Str))) (hc : X.calm = true) (hgl : Gl X nm) (hml : X.mg nm = none) (hg : Gl X "range") (hm : X.mg "range" = none) (ha : PA X (e :: es) (tA C wa))
    (hs : starEach (e :: es) X.env = (false, eval e X.env) :: starEach es X.env) (hpl : (backTo pos1 (starEach es X.env)).any (·.1) = false) :
    PE X (.Call (.Name nm p) [.Call (.Name "range" p1) (e :: es) [] pos1] [] pos) (tE C fun env k => wa env fun va e1 => ∃ xs, va = .fz (.tuple xs) ∧ rngOf n xs fun ys => k (if l = true then .fr (.list ys) else .fz (.tuple ys)) e1) := by
  refine ⟨fun pins s σ H Q I ⟨pn, env, O, k, K, W, q⟩ => ?_⟩
  have hr : tA C wa σ H fun vs H1 => ∃ i j c m, RgA vs i j c ∧ RgC i j c m ∧ (m ≤ 2 ^ 24 ∧ ∃ e1 O1, k (if l = true then .fr (.list (rngL i m c)) else .fz (.tuple (rngL i m c))) e1 ∧ Ok8 C C.so pn σ H1 e1 O1 ∧ Step H O H1 O1) := by
    refine ⟨pn, env, O, _, K, W, fun ds e1 vs H1 O1 ⟨xs, ex, w1⟩ k1 f1 s1 => ?_⟩
    cases ex
    obtain ⟨i, j, c, m, ra, rc, hm, w2⟩ := rngOf_read f1 w1
    exact ⟨i, j, c, m, ra, rc, hm, e1, O1, w2, k1, s1⟩
  have run := pe_rngA (p := p1) (pos := pos1) hg hm ha hs hpl pins s σ H (fun i c m H1 => m ≤ 2 ^ 24 ∧ ∃ e1 O1, k (if l = true then .fr (.list (rngL i m c)) else .fz (.tuple (rngL i m c))) e1 ∧ Ok8 C C.so pn σ H1 e1 O1 ∧ Step H O H1 O1) I hr
  have na : starEach [.Call (.Name "range" p1) (e :: es) [] pos1] X.env = (false, eval (.Call (.Name "range" p1) (e :: es) [] pos1) X.env) :: starEach [] X.env := rfl
  rcases hnm with ⟨rfl, rfl⟩ | ⟨rfl, rfl⟩
  · refine Call_ (ld_blt I hgl hml boot_list (PyProof.Rows.callWith_type1 (args_cons (thn run fun x s1 ⟨r, i, j, c, m, t, u, v, H1, ex, hr, rc, I1, hm1, e1, O1, w1, k1, st1⟩ => args_nil ?_) na) na))
    subst ex
    refine call_list_range (n := m) (I1.ok.hd hc) hr rc.2.2.1 rc.2.2.2 hm1 fun h' tk acc c' hk e' hi => ?_
    have hz : (rgVc i c m).length ≤ sizeLine := by rw [rgVc_length, sizeLine_eq]; omega
    have n1 := I1.hok.fresh (Nat.le_refl s1.heap.objs.size)
    obtain ⟨O3, k3, v3, s3⟩ := Res.ok k1 (.lst (O := O1) (ds := rngL i m c) n1 hz fz_rgc)
    exact ⟨.ref s1.heap.objs.size, upd H1 s1.heap.objs.size (.lst (rgVc i c m)), I1.laid hk (Nat.le_refl _) (show ObjOk X.prog X.w _ _ _ (.lst (rgVc i c m)) from ⟨hz, acc.toList, c', vals_rgc hi, by rw [Array.toArray_toList]; exact e'⟩), rfl, q _ _ _ _ _ w1 k3 v3 (st1.trans s3)⟩
  · refine Call_ (ld_blt I hgl hml boot_tuple (PyProof.Rows.callWith_type1 (args_cons (thn run fun x s1 ⟨r, i, j, c, m, t, u, v, H1, ex, hr, rc, I1, hm1, e1, O1, w1, k1, st1⟩ => args_nil ?_) na) na))
    subst ex
    refine call_tuple_range (n := m) (I1.ok.hd hc) hr rc.2.2.1 rc.2.2.2 hm1 fun h' tk acc hk hi => ?_
    have hz : (rgVc i c m).length ≤ sizeLine := by rw [rgVc_length, sizeLine_eq]; omega
    have I2 : Inv X pins σ H1 { s1 with heap := h', toks := tk } := I1.kept hk
    have n1 := I2.hok.fresh (Nat.le_refl h'.objs.size)
    obtain ⟨O3, k3, v3, s3⟩ := Res.ok k1 (.tup (O := O1) (o := tob acc.toList) (ds := rngL i m c) n1 ⟨rfl, rfl⟩ hz fz_rgc)
    exact ⟨.ref h'.objs.size, upd H1 h'.objs.size (.frz (tob acc.toList) (.tup (rgVc i c m))), I2.laid (t' := tk) (fun c o e => Heap.get?_push_of_some _ e) (Nat.le_refl _) (tob_ok hz (vals_rgc hi) (by rw [tob, Array.toArray_toList]; exact Heap.get?_push_size _ rfl)), rfl, q _ _ _ _ _ w1 k3 v3 (st1.trans s3)⟩

/-! ### t[a::c] -/
theorem pickG_map {α β : Type} (f : α → β) (xs : List α) (st : Int) (lo : Option Int) : (pickG xs st lo).map f = pickG (xs.map f) st lo := by
  unfold pickG
  rw [List.length_map, List.map_filterMap]
  congr 1
  funext m
  simp
theorem pickG_fz {K : PySem.W.Frag} {H : Hp} {O : Addr → Prop} {vs : List V} {ds : List D} (f : FzL K H O vs ds) (st : Int) (lo : Option Int) : FzL K H O (pickG vs st lo) (pickG ds st lo) := by
  unfold pickG
  rw [f.length]
  generalize (Builtin.Slice.sliceAdjust lo none st (ds.length : Int)).1 = a
  generalize Builtin.Slice.slicePlaces _ _ _ = n
  induction List.range n with
  | nil => exact .nil
  | cons m r ih =>
    simp only [List.filterMap_cons]
    cases hd : ds[(a + (m : Int) * st).toNat]? with
    | none =>
      have : vs[(a + (m : Int) * st).toNat]? = none := by
        rw [List.getElem?_eq_none_iff] at hd ⊢
        rw [f.length]; exact hd
      rw [this]
      exact ih
    | some d =>
      obtain ⟨v, ev, fv⟩ := f.get' hd
      rw [ev]
      exact .cons fv ih
theorem filterMap_len {α β : Type} (g : α → Option β) : ∀ l : List α, (l.filterMap g).length ≤ l.length
  | [] => Nat.le_refl _
  | a :: r => by
    simp only [List.filterMap_cons]
    split
    · exact Nat.le_succ_of_le (filterMap_len g r)
    · exact Nat.succ_le_succ (filterMap_len g r)
theorem sliceApplied_step {prog : Program} {w : World} {A : Around} {E : Value → Shared → Prop} {s : Shared} {sl : Addr} {vl vs : Value} {lo : Option Int} {st : Int} {n : Nat} {Q : Int × Int × Nat → Shared → Prop} (hs : s.heap.IsSliceOf sl vl .none vs) (pl : IsPart vl lo) (ps : IsPart vs (some st)) (h0 : st ≠ 0)
    (h : Q ((Builtin.Slice.sliceAdjust lo none st (n : Int)).1, st, Builtin.Slice.slicePlaces (Builtin.Slice.sliceAdjust lo none st (n : Int)).1 (Builtin.Slice.sliceAdjust lo none st (n : Int)).2 st) s) : wpAny (model prog w) A (Builtin.Slice.sliceApplied (.ref sl) (pure (n : Int))) Q E s := by
  obtain ⟨os, hos, hcs, hds⟩ := id hs
  unfold Builtin.Slice.sliceApplied Builtin.Slice.sliceFields
  refine wpAny_bind (wpAny_bind (wpAny_field hos hds (x := vl) rfl (wpAny_bind (wpAny_field hos hds (x := .none) rfl (wpAny_bind (wpAny_field hos hds (x := vs) rfl (wpAny_pure ?_)))))))
  refine wpAny_bind (HT.slicePart_ ps ?_)
  show wpAny _ _ (if (st == 0) = true then _ else _) _ _ s
  rw [if_neg (by simpa using h0)]
  refine wpAny_bind (HT.slicePart_ pl (wpAny_bind (HT.slicePart_ .none (wpAny_bind (wpAny_pure ?_)))))
  exact wpAny_pure h
theorem getItem_tuple_step {prog : Program} {w : World} {A : Around} {E : Value → Shared → Prop} {s : Shared} {t sl : Addr} {items : Array Value} {vl vs : Value} {lo : Option Int} {st : Int} {Q : Value → Shared → Prop} (ht : IsTup s.heap t items) (hs : s.heap.IsSliceOf sl vl .none vs) (pl : IsPart vl lo) (ps : IsPart vs (some st)) (h0 : st ≠ 0) (h1 : st ≠ 1)
    (h : Q (.ref s.heap.objs.size) { s with heap := s.heap.push { cls := .type "tuple", data := .seq (pickG items.toList st lo).toArray } })
    (hsz : (pickG items.toList st lo).length ≤ sizeLine) : wpAny (model prog w) A (getItem (.ref t) (.ref sl)) Q E s := by
  have htake : sizeOk (.seq (pickG items.toList st lo).toArray) := by
    show (pickG items.toList st lo).toArray.size ≤ sizeLine
    rw [List.size_toArray]
    exact hsz
  obtain ⟨os, hos, hcs, hds⟩ := id hs
  have hTs : s.TypeIs (.ref sl) "slice" := ⟨os, hos, hcs⟩
  unfold getItem
  try with_reducible refine wpAny_holding ?_
  first | refine wpAny_bind (wpAny_pure ?_) | skip
  refine wpAny_bind (wpAny_sequenceKey ht.typeIs (by decide) ?_)
  refine wpAny_bind (wpAny_callSpecial?_slot (name := Str.ofString "__getitem__") ht.typeIs PyProof.Rows.slot_tuple_getitem
    (wpAny_call_entry PyProof.Rows.slot_tuple_getitem ht.typeIs entry_tuple_getitem ?_ (args_tuple_getitem _ _)))
  show wpAny _ _ (Builtin.Tuple.tupleItemsOf (.ref t) >>= _) _ _ s
  refine wpAny_bind (tupleItemsOf_ ht ?_)
  refine wpAny_bind (wpAny_typeOf hTs ?_)
  rw [if_pos (by decide)]
  refine wpAny_bind (sliceApplied_step hs pl ps h0 ?_)
  generalize ha : (Builtin.Slice.sliceAdjust lo none st (items.size : Int)).1 = a0
  generalize hn : Builtin.Slice.slicePlaces a0 (Builtin.Slice.sliceAdjust lo none st (items.size : Int)).2 st = n0
  have hno : ¬ ((a0 == 0 && st == 1 && n0 == items.size) = true) := by
    intro q
    rw [Bool.and_eq_true, Bool.and_eq_true] at q
    exact h1 (eq_of_beq q.1.2)
  show wpAny _ _ (if (a0 == 0 && st == 1 && n0 == items.size) = true then _ else _) _ _ s
  have hp : ((List.range n0).filterMap fun (m : Nat) => items[(a0 + (m : Int) * st).toNat]?).toArray = (pickG items.toList st lo).toArray := by
    unfold pickG
    rw [Array.length_toList, ha, hn]
    congr 2
    funext m
    rw [Array.getElem?_toList]
  rw [if_neg hno, hp]
  first
    | exact wpAny_bind (m := Builtin.Tuple.tupleExact _) (wpAny_newObj_type (wpAny_pure ⟨_, rfl, wpAny_pure h⟩) htake)
    | exact wpAny_bind (m := Builtin.Tuple.tupleExact _) (wpAny_newObj_type (wpAny_bind (wpAny_pure (wpAny_pure ⟨_, rfl, wpAny_pure h⟩))) htake)
    | exact wpAny_bind (wpAny_bind (m := Builtin.Tuple.tupleExact _) (wpAny_newObj_type (wpAny_pure (wpAny_pure ⟨_, rfl, wpAny_pure h⟩)) htake))
    | exact wpAny_bind (wpAny_bind (m := Builtin.Tuple.tupleExact _) (wpAny_newObj_type (wpAny_pure ⟨_, rfl, wpAny_pure h⟩) htake))
theorem vals_pick {vs : List V} {us : List Value} (r : Vals vs us) (st : Int) (lo : Option Int) : Vals (pickG vs st lo) (pickG us st lo) := by
  unfold pickG
  rw [r.length]
  generalize (Builtin.Slice.sliceAdjust lo none st (us.length : Int)).1 = a
  generalize Builtin.Slice.slicePlaces _ _ _ = n
  induction List.range n with
  | nil => exact .nil
  | cons m rr ih =>
    simp only [List.filterMap_cons]
    cases hd : vs[(a + (m : Int) * st).toNat]? with
    | none =>
      have : us[(a + (m : Int) * st).toNat]? = none := by
        rw [List.getElem?_eq_none_iff] at hd ⊢
        rw [← r.length]; exact hd
      rw [this]
      exact ih
    | some d =>
      obtain ⟨v, ev, fv⟩ := r.get hd
      rw [ev]
      exact .cons fv ih
def tPick (K : PySem.W.Frag) (te : TE) (tl : TO) (st : Int) : TE := fun σ H Q => te σ H fun x H1 => tl σ H1 fun lo H2 => ∃ a xs, x = .ref a ∧ SqT K H2 a xs ∧ (pickG xs st lo).length ≤ sizeLine ∧ ∀ (p : Addr) (o : Obj), H2 p = none → Bare o → Q (.ref p) (upd H2 p (.frz o (.tup (pickG xs st lo))))
theorem pe_pick {te : TE} {tl : TO} {st : Int} {stE : Expr} {p3 pos : Pos} (he : PE X e te) (hl : PO X lo tl) (hst : PO X (some stE) (fun σ H Q => Q (some st) H)) (h0 : st ≠ 0) (h1 : st ≠ 1) : PE X (.Subscript e (.Slice lo none (some stE) p3) pos) (tPick X.K te tl st) := by
  refine ⟨fun pins s σ H Q I h => ?_⟩
  refine Subscript_ (thn (he.run pins s σ H _ I h) fun v s1 ⟨x, H1, I1, r1, q1⟩ => ?_)
  refine wpAny_Slice (thn (hl.run pins s1 σ H1 _ I1 q1) fun vl s2 ⟨l, H2, I2, pl, q2⟩ => ?_)
  obtain ⟨a, xs, ex, hx, hsz, q⟩ := q2
  subst ex
  cases r1
  refine thn (po_none.run pins s2 σ H2 (fun o H3 => o = none ∧ H3 = H2) I2 ⟨rfl, rfl⟩) fun vu s3 ⟨u, H3, I3, pu, eu, e3⟩ => ?_
  subst eu e3
  refine thn (hst.run pins s3 σ H3 (fun o H4 => o = some st ∧ H4 = H3) I3 ⟨rfl, rfl⟩) fun vs s4 ⟨o, H4, I4, ps, eo, e4⟩ => ?_
  subst eo e4
  have I5 : Inv X pins σ H4 { s4 with heap := s4.heap.push { cls := .type "slice", data := .fields #[vl, vu, vs] } } := I4.kept (t' := s4.toks) fun b ob q => Heap.get?_push_of_some _ q
  obtain ⟨its, r, ht, hz⟩ := I5.tuple hx
  cases pu
  show wpAny (model X.prog X.w) X.A (subscriptTail e (.Slice lo none (some stE) p3) (.ref a) (.ref s4.heap.objs.size)) (EP X pins σ Q) X.xe { s4 with heap := s4.heap.push { cls := .type "slice", data := .fields #[vl, .none, vs] } }
  refine tail_any (ops := [.ref a, .ref s4.heap.objs.size]) ht.typeIs (PyProof.Rows.slot_tuple_getitem.lookup) ?_ (by with_unfolding_all rfl)
  have hlen : (pickG its st l).length ≤ sizeLine := by
    rw [← (vals_pick r st l).length]; exact hsz
  refine getItem_tuple_step ht (Heap.IsSliceOf.new _ vl .none vs) pl ps h0 h1 ?_ (by simpa using hlen)
  exact ⟨.ref _, _, I5.laid (t' := s4.toks) (o := .frz (tob _) (.tup (pickG xs st l))) (fun b ob q => Heap.get?_push_of_some _ q) (Nat.le_refl _) (tob_ok hsz (vals_pick r st l) (Heap.get?_push_size _ rfl)), rfl, q _ _ (I5.hok.fresh (Nat.le_refl _)) ⟨rfl, rfl⟩⟩
theorem so_slcT {l : Bool} {st : Int} {stE : Expr} {p3 pos : Pos} (hK : X.K = C.K) (ha : PE X a (tE C wa)) (hl : PO X lo (tO' C l wl)) (hst : PO X (some stE) (fun σ H Q => Q (some st) H)) (h0 : st ≠ 0) (h1 : st ≠ 1) (hsz : ∀ (xs : List D) (p : Option Int), xs.length ≤ sizeLine → (pickG xs st p).length ≤ sizeLine) :
    PE X (.Subscript a (.Slice lo none (some stE) p3) pos) (tE C fun env k => wa env fun va e1 => wl e1 fun vl e2 => ∃ p, partOf l vl = some p ∧ with1 va e2 fun x => ∃ xs, x = .tuple xs ∧ k (.fz (.tuple (pickG xs st p))) e2) := by
  refine (pe_pick ha hl hst h0 h1).weak fun σ H Q ⟨pn, env, O, k, K, W, q⟩ => ?_
  refine ⟨pn, env, O, _, K, W, fun va e1 x H1 O1 w1 k1 v1 s1 => ?_⟩
  obtain ⟨O1', k1', s1', h1'⟩ := v1.settle k1
  refine ⟨pn, e1, O1', _, k1', w1, fun p e2 H2 O2 w2 k2 s2 => ?_⟩
  obtain ⟨d, ed, xs, rfl, w3⟩ := w2
  obtain ⟨a, vs, rfl, ea, z, f⟩ := ((h1'.step s2).rd k2 ed).tup
  have hz := hsz xs p (by rw [← f.length]; exact z)
  have fp := pickG_fz f st p
  rw [← fp.length] at hz
  rw [hK]
  refine ⟨a, vs, rfl, ea, hz, fun p' o n ho => ?_⟩
  obtain ⟨O5, k5, v5, s5⟩ := Res.ok k2 (.tup n ho hz fp)
  exact q _ _ _ _ _ w3 k5 v5 (s1.trans (s1'.trans (s2.trans s5)))
end
end Ev
/-! EvLoop: targets, what a loop walks, comprehensions. -/
namespace Ev
open PySem PySem.Spec PyProof.Rows L2

/-! ### targets -/
/-- the slots of a target -/
def tgS : Tg → List Nat
  | .s i => [i]
  | .nil => []
  | .cons a b => tgS a ++ tgS b
  | .t a => tgS a
/-- a thing, or a new tuple that is taken apart at once -/
def FzT (tg : Tg) (K : PySem.W.Frag) (H : Hp) (O : Addr → Prop) (v : V) (d : D) : Prop :=
  match tg with
  | .t _ => Fz K H O v d ∨ ∃ p vs es, v = .ref p ∧ d = .tuple es ∧ SqT K H p vs ∧ FzL K H O vs es
  | _ => Fz K H O v d
def isTt : Tg → Bool
  | .t _ => true
  | _ => false
theorem FzT.of {tg : Tg} {K : PySem.W.Frag} {H : Hp} {O : Addr → Prop} {v : V} {d : D} (f : Fz K H O v d) : FzT tg K H O v d := by
  cases tg <;> first | exact f | exact .inl f
def tG (C : Cc) (tg : Tg) : TG := fun v σ H Q => ∃ (pn : List (Addr × HO)) (env : Ev) (O : Addr → Prop) (d : D) (k : Ev → Prop), Ok8 C C.so pn σ H env O ∧ FzT tg C.K H O v d ∧ bindT tg d env k ∧
  ∀ env' σ' H' O', k env' → Ok8 C C.so pn σ' H' env' O' → Step H O H' O' → (∀ j, j ∉ tgS tg → σ'[j]? = σ[j]?) → σ'.length = σ.length → Q σ' H'
def tGs (C : Cc) (tg : Tg) : TGs := fun vs σ H Q => ∃ (pn : List (Addr × HO)) (env : Ev) (O : Addr → Prop) (ds : List D) (k : Ev → Prop), Ok8 C C.so pn σ H env O ∧ FzL C.K H O vs ds ∧ bindT tg (.tuple ds) env k ∧
  ∀ env' σ' H' O', k env' → Ok8 C C.so pn σ' H' env' O' → Step H O H' O' → (∀ j, j ∉ tgS tg → σ'[j]? = σ[j]?) → σ'.length = σ.length → Q σ' H'
section
variable {X : Cx} {C : Cc} {e : Expr} {es : List Expr} {pos : Pos}
theorem _root_.L2.PG.weak {t t' : TG} (h : PG X e t) (hw : ∀ v σ H Q, t' v σ H Q → t v σ H Q) : PG X e t' := ⟨fun pins s σ H v u Q I r q => h.run pins s σ H v u Q I r (hw v σ H Q q)⟩
theorem _root_.L2.PGs.weak {t t' : TGs} (h : PGs X es t) (hw : ∀ v σ H Q, t' v σ H Q → t v σ H Q) : PGs X es t' := ⟨fun pins s σ H v u Q I r q => h.run pins s σ H v u Q I r (hw v σ H Q q)⟩
theorem bindT_ex : ∀ {tg : Tg} {d : D} {env : Ev} {k : Ev → Prop}, bindT tg d env k → ∃ e, k e
  | .s i, _, _, _, h => ⟨_, h.2⟩
  | .nil, _, _, _, h => ⟨_, h.2⟩
  | .cons a b, d, env, k, h => by
    cases d with
    | tuple xs =>
      cases xs with
      | nil => exact h.elim
      | cons x r =>
        obtain ⟨e, h2⟩ := bindT_ex (tg := a) h
        exact bindT_ex (tg := b) h2
    | _ => exact h.elim
  | .t a, _, _, _, h => bindT_ex (tg := a) h
def tgLen : Tg → Nat
  | .cons _ b => tgLen b + 1
  | _ => 0
def isTgs : Tg → Bool
  | .nil => true
  | .cons _ b => isTgs b
  | _ => false
theorem bindT_len : ∀ {tg : Tg} {ds : List D} {env : Ev} {k : Ev → Prop}, isTgs tg = true → bindT tg (.tuple ds) env k → ds.length = tgLen tg
  | .nil, _, _, _, _, h => by cases h.1; rfl
  | .cons a b, ds, _, _, ht, h => by
    cases ds with
    | nil => exact h.elim
    | cons x r =>
      obtain ⟨e, h2⟩ := bindT_ex (tg := a) h
      have := bindT_len (tg := b) (by simpa [isTgs] using ht) h2
      simp only [List.length_cons, tgLen, this]
theorem so_tgN {i : Nat} {x : Str} (hN : X.N.Nodup) (hi : X.N[i]? = some x) (hx : Loc X.env.scope x) (hf : X.fn x = true ∨ X.env.scope.names.lookup x = some .local) : PG X (.Name x pos) (tG C (.s i)) := by
  refine (pg_name hN hi hx hf).weak fun v σ H Q ⟨pn, env, O, d, k, K, f, ⟨hl, hk⟩, q⟩ => ?_
  refine q _ _ _ _ hk (K.store ⟨v, rfl, f⟩ hl fun h => by cases h) .refl (fun j hj => ?_) (by simp)
  rw [List.getElem?_set_ne fun e => hj (by simp [tgS, e])]
theorem so_tgs_nil : PGs X [] (tGs C .nil) := by
  refine pgs_nil.weak fun v σ H Q ⟨pn, env, O, d, k, K, f, ⟨hd, hk⟩, q⟩ => ?_
  cases hd
  cases f
  exact ⟨rfl, q _ _ _ _ hk K .refl (fun _ _ => rfl) rfl⟩
theorem so_tgs_cons {a b : Tg} (h1 : PG X e (tG C a)) (h2 : PGs X es (tGs C b)) (hs : (assignEach (e :: es) X.env).map (·.2) = assign e X.env :: (assignEach es X.env).map (·.2)) : PGs X (e :: es) (tGs C (.cons a b)) := by
  refine (pgs_cons h1 h2 hs).weak fun vs σ H Q ⟨pn, env, O, ds, k, K, f, hb, q⟩ => ?_
  cases f with
  | nil => exact hb.elim
  | cons f1 f2 =>
    refine ⟨_, _, rfl, pn, env, O, _, _, K, .of f1, hb, fun e1 σ1 H1 O1 hk1 K1 s1 n1 l1 => ?_⟩
    refine ⟨pn, e1, O1, _, _, K1, f2.step s1, hk1, fun e2 σ2 H2 O2 hk2 K2 s2 n2 l2 => q _ _ _ _ hk2 K2 (s1.trans s2) (fun j hj => ?_) (l2.trans l1)⟩
    simp only [tgS, List.mem_append, not_or] at hj
    exact (n2 j hj.2).trans (n1 j hj.1)
theorem so_tgT {a : Tg} {n : Nat} (hc : X.calm = true) (hK : X.K = C.K) (h : PGs X es (tGs C a)) (ha : isTgs a = true) (hn : (assignEach es X.env).length = tgLen a) (hst : (assignEach es X.env).findIdx? (·.1) = none) : PG X (.Tuple es n pos) (tG C (.t a)) := by
  refine (pg_tup hc h hn hst).weak fun v σ H Q ⟨pn, env, O, d, k, K, f, hb, q⟩ => ?_
  have hd : ∃ ds, d = .tuple ds := by
    have hb : bindT a d env k := hb
    cases a with
    | nil => exact ⟨_, hb.1⟩
    | cons a b => cases d with
      | tuple ds => exact ⟨ds, rfl⟩
      | _ => exact hb.elim
    | _ => cases ha
  obtain ⟨ds, rfl⟩ := hd
  have main : ∃ p vs, v = .ref p ∧ SqT C.K H p vs ∧ FzL C.K H O vs ds := by
    rcases f with f | ⟨p, vs, es, rfl, e, sq, g⟩
    · obtain ⟨p, vs, rfl, ev, z, g⟩ := Rp.tup (.inl f)
      exact ⟨p, vs, rfl, ev, g⟩
    · cases e
      exact ⟨p, vs, rfl, sq, g⟩
  obtain ⟨p, vs, rfl, ev, g⟩ := main
  rw [hK]
  exact ⟨p, vs, rfl, ev, by rw [g.length]; exact bindT_len ha hb, pn, env, O, ds, k, K, g, hb, q⟩

/-! ### what is walked -/
/-- the iterator J gives the things ds, as long as what is none of O's stays -/
structure Wk (C : Cc) (raw : Bool) (H : Hp) (O : Addr → Prop) (J : It) (ds : List D) : Prop where
  size : ds.length ≤ sizeLine
  stop : ∀ H' O' i, Step H O H' O' → ds.length ≤ i → J.stop i H'
  go : ∀ H' O' i, Step H O H' O' → i < ds.length → J.go i H'
  yld : ∀ H' O' i x H2, Step H O H' O' → J.yld i H' x H2 → i < ds.length → ∃ d, ds[i]? = some d ∧ ((H2 = H' ∧ Fz C.K H' O' x d) ∨ raw = true ∧ ∃ p vs es, H' p = none ∧ H2 = upd H' p (.tup vs) ∧ x = .ref p ∧ d = .tuple es ∧ vs.length ≤ sizeLine ∧ FzL C.K H' O' vs es)
/-- what gives new tuples -/
def rawI : Ik → Bool
  | .zipL => true | .zipT => true | .zipLT => true | .zipTL => true | .enL => true | .enT => true | .items => true
  | _ => false
def tI (C : Cc) (ik : Ik) (W : Wx) : TI := fun σ H R => ∃ (pn : List (Addr × HO)) (env : Ev) (O : Addr → Prop) (k : List D → Ev → Prop), Ok8 C C.so pn σ H env O ∧ (W env fun vi e1 => vi.give e1 fun d e2 => walks ik d fun ds => k ds e2) ∧
  ∀ ds env' J H' O', k ds env' → Ok8 C C.so pn σ H' env' O' → Wk C (rawI ik) H' O' J ds → Step H O H' O' → R J H'
variable {tg a : Expr} {wa : Wx}
theorem _root_.L2.PI.weak {t t' : TI} (h : PI X tg e t) (hw : ∀ σ H Q, t' σ H Q → t σ H Q) : PI X tg e t' := ⟨fun pins s σ H Q I q => h.run pins s σ H Q I (hw σ H Q q)⟩
theorem wk_list {H : Hp} {O : Addr → Prop} {p : Addr} {vs : List V} {ds : List D} (n : ¬ O p) (ep : H p = some (.lst vs)) (z : vs.length ≤ sizeLine) (f : FzL C.K H O vs ds) {raw : Bool} : Wk C raw H O (Itl C.K p) ds := by
  have at_ : ∀ {H' O'}, Step H O H' O' → SqL C.K H' p vs := fun s => SqL.of (s.keep _ _ ep n)
  refine ⟨by rw [← f.length]; exact z, fun H' O' i s hi => ⟨vs, at_ s, by rw [f.length]; exact hi⟩, fun H' O' i s hi => ?_, fun H' O' i x H2 s y hi => ?_⟩
  · obtain ⟨v, hv, _⟩ := f.get' (i := i) (d := ds[i]) (by simp [hi])
    exact ⟨vs, v, at_ s, hv⟩
  · obtain ⟨e, y⟩ := y
    subst e
    obtain ⟨d, hd, fd⟩ := f.get (y vs (at_ s))
    exact ⟨d, hd, .inl ⟨rfl, fd.step s⟩⟩
theorem wk_tup0 {H : Hp} {O : Addr → Prop} {p : Addr} {vs : List V} {ds : List D} (at_ : ∀ {H' O'}, Step H O H' O' → SqT C.K H' p vs) (z : vs.length ≤ sizeLine) (f : FzL C.K H O vs ds) {raw : Bool} : Wk C raw H O (Itt C.K p) ds := by
  refine ⟨by rw [← f.length]; exact z, fun H' O' i s hi => ⟨vs, at_ s, by rw [f.length]; exact hi⟩, fun H' O' i s hi => ?_, fun H' O' i x H2 s y hi => ?_⟩
  · obtain ⟨v, hv, _⟩ := f.get' (i := i) (d := ds[i]) (by simp [hi])
    exact ⟨vs, v, at_ s, hv⟩
  · obtain ⟨e, y⟩ := y
    subst e
    obtain ⟨d, hd, fd⟩ := f.get (y vs (at_ s))
    exact ⟨d, hd, .inl ⟨rfl, fd.step s⟩⟩
/-- a tuple as it is read, and stays to be read -/
theorem tup_stay {H : Hp} {O : Addr → Prop} {v : V} {ds : List D} (fv : Fz C.K H O v (.tuple ds)) : ∃ p vs, v = .ref p ∧ vs.length ≤ sizeLine ∧ FzL C.K H O vs ds ∧ ∀ {H' O'}, Step H O H' O' → SqT C.K H' p vs := by
  cases fv with
  | tup n e z f => exact ⟨_, _, rfl, z, f, fun s => (s.tp n e).sq⟩
  | tupK e _ _ _ z f => exact ⟨_, _, rfl, z, f, fun s => sqT_any e⟩
theorem list_stay {H : Hp} {O : Addr → Prop} {v : V} {ds : List D} (fv : Fz C.K H O v (.list ds)) : ∃ p vs, v = .ref p ∧ vs.length ≤ sizeLine ∧ FzL C.K H O vs ds ∧ ∀ {H' O'}, Step H O H' O' → SqL C.K H' p vs := by
  cases fv with
  | lst n e z f => exact ⟨_, _, rfl, z, f, fun s => SqL.of (s.keep _ _ e n)⟩
theorem so_itL (hK : X.K = C.K) (ha : PE X a (tE C wa)) : PI X tg a (tI C .lst wa) := by
  refine (pi_list ha).weak fun σ H R ⟨pn, env, O, k, K, W, q⟩ => ?_
  refine ⟨pn, env, O, _, K, W, fun vi e1 v H1 O1 w1 k1 v1 s1 => ?_⟩
  obtain ⟨d, e2, O2, w2, k2, s2, f2⟩ := v1.give k1 w1
  cases d with
  | list xs =>
    obtain ⟨p, vs, rfl, z, f, st⟩ := list_stay f2
    cases f2 with
    | lst n ep z' f' =>
      rw [hK]
      exact ⟨p, rfl, ⟨vs, st .refl⟩, q _ _ _ _ _ w2 k2 (wk_list n ep z' f') (s1.trans s2)⟩
  | _ => exact w2.elim
theorem so_itT (hK : X.K = C.K) (ha : PE X a (tE C wa)) : PI X tg a (tI C .tup wa) := by
  refine (pi_tup ha).weak fun σ H R ⟨pn, env, O, k, K, W, q⟩ => ?_
  refine ⟨pn, env, O, _, K, W, fun vi e1 v H1 O1 w1 k1 v1 s1 => ?_⟩
  obtain ⟨d, e2, O2, w2, k2, s2, f2⟩ := v1.give k1 w1
  cases d with
  | tuple xs =>
    obtain ⟨p, vs, rfl, z, f, st⟩ := tup_stay f2
    rw [hK]
    exact ⟨p, rfl, ⟨vs, st .refl⟩, q _ _ _ _ _ w2 k2 (wk_tup0 st z f) (s1.trans s2)⟩
  | _ => exact w2.elim
theorem rngL_len (lo : Int) (n : Nat) (c : Int) : (rngL lo n c).length = n := by simp [rngL]
theorem rngL_get {lo : Int} {n : Nat} {c : Int} {i : Nat} (h : i < n) : (rngL lo n c)[i]? = some (.int (lo + (i : Int) * c)) := by
  simp [rngL, h]
theorem wk_rng {H : Hp} {O : Addr → Prop} {lo : Int} {n : Nat} (hn : n ≤ 16777216) {raw : Bool} : Wk C raw H O (Itr lo n) (rngL lo n 1) := by
  refine ⟨by rw [rngL_len, sizeLine_eq]; exact hn, fun H' O' i s hi => by rw [rngL_len] at hi; exact hi, fun H' O' i s hi => by rw [rngL_len] at hi; exact hi, fun H' O' i x H2 s y hi => ?_⟩
  rw [rngL_len] at hi
  obtain ⟨e, y⟩ := y
  subst e y
  exact ⟨_, rngL_get hi, .inl ⟨rfl, by rw [Int.mul_one]; exact .int _⟩⟩
theorem wk_rngC {H : Hp} {O : Addr → Prop} {lo c : Int} {n : Nat} (hn : n ≤ 16777216) {raw : Bool} : Wk C raw H O (Itc lo c n) (rngL lo n c) := by
  refine ⟨by rw [rngL_len, sizeLine_eq]; exact hn, fun H' O' i s hi => by rw [rngL_len] at hi; exact hi, fun H' O' i s hi => by rw [rngL_len] at hi; exact hi, fun H' O' i x H2 s y hi => ?_⟩
  rw [rngL_len] at hi
  obtain ⟨e, y⟩ := y
  subst e y
  exact ⟨_, rngL_get hi, .inl ⟨rfl, .int _⟩⟩
theorem fz_int {K : PySem.W.Frag} {H : Hp} {O : Addr → Prop} {v : V} {i : Int} (f : Fz K H O v (.int i)) : v = .int i := by cases f; rfl
def plainE : Expr → Bool
  | .Starred .. => false
  | _ => true
theorem star_plain {env : Env} (h : plainE a = true) : starEach (a :: es) env = (false, eval a env) :: starEach es env := by
  cases a <;> first | rfl | cases h
theorem star_all {env : Env} {pos : Pos} : ∀ {es : List Expr}, es.all plainE = true → (backTo pos (starEach es env)).any (·.1) = false
  | [], _ => rfl
  | a :: es, h => by
    simp only [List.all_cons, Bool.and_eq_true] at h
    rw [star_plain h.1]
    exact star_all (es := es) h.2
theorem so_rng1 {p : Pos} (hp : plainE a = true) (hg : Gl X "range") (hm : X.mg "range" = none) (ha : PA X [a] (tA C wa)) : PI X tg (.Call (.Name "range" p) [a] [] pos) (tI C .rng1 wa) := by
  refine (pi_range1 hg hm ha (star_plain hp)).weak fun σ H R ⟨pn, env, O, k, K, W, q⟩ => ?_
  refine ⟨pn, env, O, _, K, W, fun ds e1 vs H1 O1 w1 k1 f1 s1 => ?_⟩
  have w1 : walks .rng1 (.tuple ds) fun ds => k ds e1 := w1
  match ds, w1, f1 with
  | [.int n], w1, .cons f .nil =>
    cases fz_int f
    obtain ⟨hz, w1⟩ := w1
    exact ⟨n, rfl, by omega, by omega, q _ _ _ _ _ w1 k1 (wk_rng (by omega)) s1⟩
theorem so_rng2 {b : Expr} {p : Pos} (hp : plainE a = true) (hp2 : plainE b = true) (hg : Gl X "range") (hm : X.mg "range" = none) (ha : PA X [a, b] (tA C wa)) : PI X tg (.Call (.Name "range" p) [a, b] [] pos) (tI C .rng2 wa) := by
  refine (pi_range2 hg hm ha (by rw [star_plain hp, star_plain hp2]; rfl) (star_plain hp2)).weak fun σ H R ⟨pn, env, O, k, K, W, q⟩ => ?_
  refine ⟨pn, env, O, _, K, W, fun ds e1 vs H1 O1 w1 k1 f1 s1 => ?_⟩
  have w1 : walks .rng2 (.tuple ds) fun ds => k ds e1 := w1
  match ds, w1, f1 with
  | [.int n, .int m], w1, .cons f (.cons g .nil) =>
    cases fz_int f
    cases fz_int g
    obtain ⟨hz, w1⟩ := w1
    exact ⟨n, m, rfl, by omega, q _ _ _ _ _ w1 k1 (wk_rng (by omega)) s1⟩

/-! ### comprehensions -/
def wipeS (σ : Sg) : List Nat → Sg := fun l => L2.wipe σ l
theorem wipeE_len : ∀ {l : List Nat} {env : Ev}, (wipeE env l).length = env.length
  | [], _ => rfl
  | i :: r, env => by simp only [wipeE, List.length_set]; exact wipeE_len
theorem wipeE_get : ∀ {l : List Nat} {env : Ev} {i : Nat}, (wipeE env l).getD i .no = if i ∈ l then .no else env.getD i .no
  | [], _, _ => rfl
  | j :: r, env, i => by
    rw [wipeE, getD_set, wipeE_len, wipeE_get]
    by_cases h : j = i
    · subst h
      by_cases hl : j < env.length
      · simp [hl]
      · simp [hl]
    · have h' : ¬ i = j := fun e => h e.symm
      simp [h, h']
theorem wipe_get : ∀ {l : List Nat} {σ : Sg} {i : Nat}, (L2.wipe σ l)[i]? = if i ∈ l ∧ i < σ.length then some none else σ[i]?
  | [], _, _ => by simp [L2.wipe]
  | j :: r, σ, i => by
    show ((L2.wipe σ r).set j none)[i]? = _
    rw [List.getElem?_set, L2.wipe_length, wipe_get]
    by_cases h : j = i
    · subst h
      by_cases hl : j < σ.length
      · simp [hl]
      · simp [hl]
    · have h' : ¬ i = j := fun e => h e.symm
      simp [h, h']
theorem backE_len : ∀ {l : List Nat} {old new : Ev}, (backE old new l).length = new.length
  | [], _, _ => rfl
  | i :: r, old, new => by simp only [backE, List.length_set]; exact backE_len
def keptS (s : Sl) : Sl := match s with | .fz d => .fz d | _ => .no
theorem backE_get : ∀ {l : List Nat} {old new : Ev} {i : Nat}, (backE old new l).getD i .no = if i ∈ l ∧ i < new.length then keptS (old.getD i .no) else new.getD i .no
  | [], _, _, _ => by simp [backE]
  | j :: r, old, new, i => by
    rw [backE, getD_set, backE_len, backE_get]
    by_cases h : j = i
    · subst h
      by_cases hl : j < new.length
      · simp [hl]; rfl
      · simp [hl]
    · have h' : ¬ i = j := fun e => h e.symm
      simp [h, h']
section
variable {σ : Sg} {H H' : Hp} {env env' : Ev} {O O' : Addr → Prop} {pn : List (Addr × HO)} {own : List Nat} {so : Option (Addr × Addr)}
/-- a block begins: its own names forgotten -/
theorem Ok8.wiped (k : Ok8 C so pn σ H env O) : Ok8 C so pn (L2.wipe σ own) H (wipeE env own) O := by
  have ow : ∀ i a, OwnAt (L2.wipe σ own) (wipeE env own) i a → OwnAt σ env i a := fun i a ⟨h1, h2⟩ => by
    rw [wipeE_get] at h1
    rw [wipe_get] at h2
    split at h1
    · cases h1
    · rename_i hn
      rw [if_neg fun z => hn z.1] at h2
      exact ⟨h1, h2⟩
  refine ⟨by rw [wipeE_len, L2.wipe_length]; exact k.len, fun i => ?_, fun i j a x y => k.inj i j a (ow _ _ x) (ow _ _ y), k.fr, k.dom, k.sub, k.o0, fun p c e => ?_, k.s0, fun q hq => ?_⟩
  · rw [wipeE_get, wipe_get]
    by_cases hi : i ∈ own
    · rw [if_pos hi]; trivial
    · rw [if_neg hi, if_neg fun z => hi z.1]; exact k.slot i
  · obtain ⟨x, y, z, w, q⟩ := k.src p c e
    exact ⟨x, y, z, w, fun i a h => q i a (ow i a h)⟩
  · obtain ⟨x, y, z, w, r⟩ := k.pin q hq
    exact ⟨x, y, z, fun i h => w i (ow i _ h), r⟩
/-- a turn of the block begins again -/
theorem Ok8.rewiped {σ2 : Sg} (k : Ok8 C so pn σ2 H env O) (h : L2.wipe σ2 own = L2.wipe σ own) : Ok8 C so pn (L2.wipe σ own) H (wipeE env own) O := by
  rw [← h]; exact k.wiped
theorem back_own {i : Nat} {a : Addr} (hl : env'.length = σ.length) (h : OwnAt σ (backE env env' own) i a) : OwnAt (L2.wipe σ own) (wipeE env' own) i a := by
  obtain ⟨h1, h2⟩ := h
  rw [backE_get] at h1
  have hi : i < σ.length := (List.getElem?_eq_some_iff.mp h2).1
  by_cases ho : i ∈ own
  · rw [if_pos ⟨ho, by rw [hl]; exact hi⟩] at h1
    generalize env.getD i .no = sl at h1
    cases sl <;> cases h1
  · rw [if_neg fun z => ho z.1] at h1
    exact ⟨by rw [wipeE_get, if_neg ho]; exact h1, by rw [wipe_get, if_neg fun z => ho z.1]; exact h2⟩
/-- a block has ended -/
theorem Ok8.back (k0 : Ok8 C so pn σ H env O) (k : Ok8 C so pn (L2.wipe σ own) H' (wipeE env' own) O') (s : Step H O H' O') (hl : env'.length = env.length) : Ok8 C so pn σ H' (backE env env' own) O' := by
  have ow : ∀ i a, OwnAt σ (backE env env' own) i a → OwnAt (L2.wipe σ own) (wipeE env' own) i a := fun i a h => back_own (hl.trans k0.len) h
  refine ⟨by rw [backE_len, hl]; exact k0.len, fun i => ?_, fun i j a x y => k.inj i j a (ow _ _ x) (ow _ _ y), k.fr, k.dom, k.sub, k.o0, fun p c e => ?_, k.s0, fun q hq => ?_⟩
  · rw [backE_get]
    by_cases ho : i ∈ own ∧ i < env'.length
    · rw [if_pos ho]
      have sl := k0.slot i
      generalize env.getD i .no = sx at sl
      cases sx with
      | fz d => obtain ⟨x, e, f⟩ := sl; exact ⟨x, e, f.step s⟩
      | _ => trivial
    · rw [if_neg ho]
      by_cases h1 : i ∈ own
      · have : env'.getD i .no = .no := by
          rw [List.getD_eq_getElem?_getD, List.getElem?_eq_none]
          · rfl
          · exact Nat.le_of_not_lt fun z => ho ⟨h1, z⟩
        rw [this]; trivial
      · have sl := k.slot i
        rw [wipeE_get, if_neg h1, wipe_get, if_neg fun z => h1 z.1] at sl
        exact sl
  · obtain ⟨x, y, z, w, q⟩ := k.src p c e
    exact ⟨x, y, z, w, fun i a h => q i a (ow i a h)⟩
  · obtain ⟨x, y, z, w, r⟩ := k.pin q hq
    exact ⟨x, y, z, fun i h => w i (ow i _ h), r⟩
end
section
variable {σ : Sg} {H : Hp} {env : Ev} {O : Addr → Prop} {pn : List (Addr × HO)} {so : Option (Addr × Addr)} {p : Addr} {u u' : HO}
/-- a new thing that nobody else may change -/
theorem Ok8.pinNew (k : Ok8 C so pn σ H env O) (n : H p = none) : Ok8 C so ((p, u) :: pn) σ (upd H p u) env (fun a => O a ∨ a = p) := by
  have k1 : Ok8 C so pn σ (upd H p u) env (fun a => O a ∨ a = p) := k.allocO n
  refine ⟨k1.len, k1.slot, k1.inj, k1.fr, k1.dom, k1.sub, k1.o0, k1.src, k1.s0, fun q hq => ?_⟩
  rcases List.mem_cons.mp hq with rfl | hq
  · refine ⟨upd_same, .inr rfl, (k.hbnew n).1, fun i h => ?_, fun p' c e => ?_⟩
    · obtain ⟨_, _, o, e⟩ := k.ownSome h; rw [n] at e; cases e
    · obtain ⟨x, _⟩ := k.src p' c e
      obtain ⟨o, e1⟩ := x.at1
      obtain ⟨o2, e2⟩ := x.at2
      exact ⟨(ne_new n e1).symm, (ne_new n e2).symm⟩
  · exact k1.pin q hq
theorem Ok8.unpin (k : Ok8 C so ((p, u) :: pn) σ H env O) : Ok8 C so pn σ H env O :=
  ⟨k.len, k.slot, k.inj, k.fr, k.dom, k.sub, k.o0, k.src, k.s0, fun q hq => k.pin q (List.mem_cons_of_mem _ hq)⟩
/-- it is changed -/
theorem Ok8.pinSet (k : Ok8 C so ((p, u) :: pn) σ H env O) (hp : ∀ q ∈ pn, q.1 ≠ p) : Ok8 C so ((p, u') :: pn) σ (upd H p u') env O := by
  obtain ⟨e, op, hb, no, ns⟩ := k.pin (p, u) List.mem_cons_self
  have k1 : Ok8 C so pn σ (upd H p u') env O := k.unpin.move (step_write op) (fun i a h => ⟨(k.ownSome h).1, upd_ne fun z => no i (z ▸ h)⟩) (fun a o q hs => by
      have : a ≠ p := fun z => by subst z; rw [hb] at q; cases q
      rw [upd_ne this]; exact k.fr a o q hs) (fun a z => by
      by_cases h : a = p
      · subst h; exact ⟨_, upd_same⟩
      · rw [upd_ne h]; exact k.dom a z) k.sub (fun p' c q => by
      obtain ⟨x, y, z, _⟩ := k.src p' c q
      obtain ⟨n1, n2⟩ := ns p' c q
      exact ⟨x.same (upd_ne (Ne.symm n1)) (upd_ne (Ne.symm n2)), y, z⟩) fun q hq => by
      obtain ⟨x, y, _⟩ := k.pin q (List.mem_cons_of_mem _ hq)
      exact ⟨(upd_ne (hp q hq)).trans x, y⟩
  refine ⟨k1.len, k1.slot, k1.inj, k1.fr, k1.dom, k1.sub, k1.o0, k1.src, k1.s0, fun q hq => ?_⟩
  rcases List.mem_cons.mp hq with rfl | hq
  · exact ⟨upd_same, op, hb, no, ns⟩
  · exact k1.pin q hq
end
def compJ (own : List Nat) (tg : Tg) (wt we : Wx) : D → Ev → (Option D → Ev → Prop) → Prop := fun x e0 kk => bindT tg x (wipeE e0 own) fun ea => wt ea fun vt eb => truth vt fun c =>
        if c = true then we eb fun vy ec => vy.give ec fun y ed => kk (some y) ed else kk none eb
theorem so_comp {elt tgE iter : Expr} {ifs : List Expr} {scope : Scope} {own : List (Str × Nat)} {ik : Ik} {tg : Tg} {wi wt we : Wx} (hK : X.K = C.K) (hc : X.calm = true) (hN : X.N.Nodup) (hi : PI X tgE iter (tI C ik wi)) (ok : BlkOk X.N X.env.scope scope own)
    (hg : ∀ (s : Shared) (H : Hp) (D : Addr) (cl : List (Str × Addr)) (fp : List Addr), PG (X.blk s H scope (compEnvC scope cl D X.env) fp) tgE (tG C tg))
    (ht : ∀ (s : Shared) (H : Hp) (D : Addr) (cl : List (Str × Addr)) (fp : List Addr), PTs (X.blk s H scope (compEnvC scope cl D X.env) fp) ifs (tT C wt))
    (he : ∀ (s : Shared) (H : Hp) (D : Addr) (cl : List (Str × Addr)) (fp : List Addr), PE (X.blk s H scope (compEnvC scope cl D X.env) fp) elt (tE C we)) (hsub : ∀ j ∈ tgS tg, j ∈ own.map (·.2)) (hraw : rawI ik = true → isTt tg = true) (σ : Sg) (H : Hp) (Q : VK)
    (hw : tE C (fun env k => wi env fun vi e1 => vi.give e1 fun d e2 => walks ik d fun ds => compL (compJ (own.map (·.2)) tg wt we) ds e2 [] fun ys e9 => k (.fr (.list ys)) (backE e2 e9 (own.map (·.2)))) σ H Q) :
    tLc (tI C ik wi) (tG C tg) (tT C wt) (tE C we) (own.map (·.2)) σ H Q := by
  obtain ⟨pn, env, O, k, K, W, q⟩ := hw
  generalize own.map (·.2) = vs at W q hsub ⊢
  refine ⟨pn, env, O, _, K, W, fun ds e2 J H1 O1 w1 k1 wk s1 => ?_⟩
  intro Dd nD
  have hnp : ∀ r ∈ pn, r.1 ≠ Dd := fun r hr => ne_new nD (k1.pin r hr).1
  refine ⟨fun i m H' => m = ds.length - i ∧ i ≤ ds.length ∧ ∃ e0 acc vacc O', Ok8 C C.so ((Dd, .lst vacc) :: pn) (L2.wipe σ vs) H' (wipeE e0 vs) O' ∧ FzL C.K H' O' vacc acc ∧ vacc.length ≤ i ∧
    compL (compJ vs tg wt we) (ds.drop i) e0 acc (fun ys e9 => k (.fr (.list ys)) (backE e2 e9 vs)) ∧ Step H1 O1 H' O', ⟨ds.length, by simp, Nat.zero_le _, e2, [], [], _, (k1.wiped).pinNew nD, .nil, Nat.le_refl _, by rw [List.drop_zero]; exact w1, step_own nD⟩, ?_⟩
  rintro i m H' ⟨rfl, hi, e0, acc, vacc, O', k2, f2, hv, hc2, s2⟩
  by_cases hlt : i < ds.length
  · refine .inr ⟨wk.go H' O' i s2 hlt, fun H'' => ∃ e0 acc vacc O', Ok8 C C.so ((Dd, .lst vacc) :: pn) (L2.wipe σ vs) H'' (wipeE e0 vs) O' ∧ FzL C.K H'' O' vacc acc ∧ vacc.length ≤ i + 1 ∧
      compL (compJ vs tg wt we) (ds.drop (i + 1)) e0 acc (fun ys e9 => k (.fr (.list ys)) (backE e2 e9 vs)) ∧ Step H1 O1 H'' O', fun H'' h => ⟨ds.length - (i + 1), by omega, rfl, hlt, h⟩, fun x H2 y => ?_⟩
    obtain ⟨d, hd, hy⟩ := wk.yld H' O' i x H2 s2 y hlt
    have hdr : ds.drop i = d :: ds.drop (i + 1) := by
      have := (List.getElem?_eq_some_iff.mp hd).2
      rw [← this, List.drop_eq_getElem_cons hlt]
    rw [hdr] at hc2
    have main : Ok8 C C.so ((Dd, .lst vacc) :: pn) (L2.wipe σ vs) H2 (wipeE e0 vs) O' ∧ FzT tg C.K H2 O' x d ∧ Step H' O' H2 O' := by
      rcases hy with ⟨rfl, fx⟩ | ⟨hr, p, ws, es, n, rfl, rfl, rfl, z, g⟩
      · exact ⟨k2, .of fx, .refl⟩
      · refine ⟨k2.alloc n, ?_, step_alloc n⟩
        have ht := hraw hr
        cases tg <;> first | (cases ht; done) | exact .inr ⟨p, ws, es, rfl, rfl, .inl (.inl upd_same), FzL.step (step_alloc n) g⟩
    obtain ⟨k3, fx, s3⟩ := main
    refine ⟨_, wipeE e0 vs, O', d, _, k3, fx, hc2, fun ea σa Ha Oa wa ka sa na la => ?_⟩
    have hwipe : L2.wipe σa vs = L2.wipe σ vs := by
      have hlen : σa.length = σ.length := by rw [la, L2.wipe_length]
      apply List.ext_getElem?
      intro j
      rw [wipe_get, wipe_get, hlen]
      by_cases hj : j ∈ vs
      · by_cases hl : j < σ.length
        · rw [if_pos ⟨hj, hl⟩, if_pos ⟨hj, hl⟩]
        · rw [if_neg fun z => hl z.2, if_neg fun z => hl z.2, List.getElem?_eq_none (by omega), List.getElem?_eq_none (by omega)]
      · rw [if_neg fun z => hj z.1, if_neg fun z => hj z.1]
        have := na j fun z => hj (hsub j z)
        rw [this, wipe_get, if_neg fun z => hj z.1]
    refine ⟨hwipe, _, ea, Oa, _, ka, wa, fun b eb Hb' Ob wb kb sb => ?_⟩
    cases b with
    | false =>
      refine iteF ?_
      simp only [Bool.false_eq_true, if_false] at wb
      exact ⟨eb, acc, vacc, Ob, kb.rewiped hwipe, f2.step (s3.trans (sa.trans sb)), by omega, wb, s2.trans (s3.trans (sa.trans sb))⟩
    | true =>
      refine iteT ?_
      simp only [if_true] at wb
      refine ⟨_, eb, Ob, _, kb, wb, fun vy ec y' Hc Oc wc kc vc sc => ?_⟩
      obtain ⟨dy, ed, Od, wd, kd, sd, fd⟩ := vc.give kc wc
      obtain ⟨eD, oD, _⟩ := kd.pin _ List.mem_cons_self
      have hz : vacc.length < sizeLine := Nat.lt_of_lt_of_le (by omega) wk.size
      have st := s3.trans (sa.trans (sb.trans (sc.trans sd)))
      refine ⟨vacc, eD, hz, ed, acc ++ [dy], vacc ++ [y'], Od, (kd.pinSet hnp).rewiped hwipe, ?_, by simp; omega, wd, (s2.trans st).trans (step_write oD)⟩
      exact ((f2.step st).append (.one fd)).step (step_write oD)
  · have e : i = ds.length := by omega
    subst e
    rw [List.drop_length] at hc2
    obtain ⟨eD, oD, hb, no, ns⟩ := k2.pin _ List.mem_cons_self
    refine .inl ⟨wk.stop H' O' _ s2 (Nat.le_refl _), ?_⟩
    have hl : e0.length = e2.length := by
      have a1 := k2.len
      have a2 := k1.len
      rw [wipeE_len, L2.wipe_length] at a1
      omega
    have kb := k1.back k2.unpin s2 hl
    refine q _ _ _ _ _ hc2 kb ⟨Dd, rfl, oD, hb, ⟨vacc, eD, Nat.le_trans hv wk.size, f2⟩, fun i h => no i (back_own (hl.trans k1.len) h), ns, hnp⟩ (s1.trans s2)
end
end Ev
set_option maxHeartbeats 4000000
/-! EvMore2: index, dicts. -/
namespace Ev
open PySem PySem.Spec PyProof.Rows L2

/-! ### keys -/
theorem eqv_key : ∀ (a b : L2.Key), PyData.eqv (keyD a) (keyD b) = decide (a = b)
  | .inl i, .inl j => by
    show (i == j) = _
    rw [Bool.eq_iff_iff]; simp
  | .inl i, .inr j => by
    show false = _
    simp
  | .inr i, .inl j => by
    show false = _
    simp
  | .inr i, .inr j => by
    show (i == j) = _
    rw [Bool.eq_iff_iff]; simp
theorem isKey_of {d : D} (h : isKey d = true) : ∃ k : L2.Key, d = keyD k := by
  cases d with
  | int i => exact ⟨.inl i, rfl⟩
  | str x => exact ⟨.inr x, rfl⟩
  | _ => cases h
theorem isKey_kd (k : L2.Key) : isKey (keyD k) = true := by cases k <;> rfl
section
variable {K : PySem.W.Frag} {H H' : Hp} {O : Addr → Prop}
theorem fz_key {v : V} {k : L2.Key} (f : Fz K H O v (keyD k)) : v = kV k := by
  cases k with
  | inl i => cases f; rfl
  | inr i => cases f; rfl
theorem rp_key {v : V} {k : L2.Key} (f : Rp K H O v (keyD k)) : v = kV k := by
  rcases f with f | ⟨a, rfl, f⟩
  · exact fz_key f
  · cases k <;> exact f.elim
theorem fz_kV (k : L2.Key) : Fz K H O (kV k) (keyD k) := by
  cases k with
  | inl i => exact .int i
  | inr x => exact .str x
theorem fzk_look : ∀ {kvs : List (L2.Key × V)} {ds : List (D × D)} (k : L2.Key), FzK K H O kvs ds →
    (valV kvs k = none ∧ look ds (keyD k) = none) ∨ ∃ v d, valV kvs k = some v ∧ look ds (keyD k) = some d ∧ Fz K H O v d
  | _, _, k, .nil => .inl ⟨rfl, rfl⟩
  | _, _, k, .cons (k := j) (v := v) (kvs := r) (d := d) (ds := ds) f g => by
    by_cases e : j = k
    · subst e
      refine .inr ⟨v, d, valV_pos rfl, ?_, f⟩
      simp [look, eqv_key]
    · have h1 : valV ((j, v) :: r) k = valV r k := valV_neg e
      have h2 : look ((keyD j, d) :: ds) (keyD k) = look ds (keyD k) := by
        simp [look, eqv_key, e]
      rw [h1, h2]
      exact fzk_look k g
theorem fzk_any : ∀ {kvs : List (L2.Key × V)} {ds : List (D × D)} (k : L2.Key), FzK K H O kvs ds → (kvs.any fun kv => decide (kv.1 = k)) = ds.any fun p => PyData.eqv p.1 (keyD k)
  | _, _, k, .nil => rfl
  | _, _, k, .cons f g => by
    simp only [List.any_cons, eqv_key, fzk_any k g]
theorem fzk_app : ∀ {a b : List (L2.Key × V)} {c d : List (D × D)}, FzK K H O a c → FzK K H O b d → FzK K H O (a ++ b) (c ++ d)
  | _, _, _, _, .nil, h => h
  | _, _, _, _, .cons f g, h => .cons f (fzk_app g h)
theorem fzk_map : ∀ {kvs : List (L2.Key × V)} {ds : List (D × D)} (k : L2.Key) {v : V} {d : D}, Fz K H O v d → FzK K H O kvs ds → FzK K H O (kvs.map fun kv => if kv.1 = k then (kv.1, v) else kv) (ds.map fun p => if PyData.eqv p.1 (keyD k) = true then (p.1, d) else p)
  | _, _, k, _, _, _, .nil => .nil
  | _, _, k, v, d, h, .cons (k := j) f g => by
    simp only [List.map_cons, eqv_key, decide_eq_true_eq]
    by_cases e : j = k
    · rw [if_pos e, if_pos e]
      exact .cons h (fzk_map k h g)
    · rw [if_neg e, if_neg e]
      exact .cons f (fzk_map k h g)
theorem fzk_put {kvs : List (L2.Key × V)} {ds : List (D × D)} (k : L2.Key) {v : V} {d : D} (h : Fz K H O v d) (g : FzK K H O kvs ds) : FzK K H O (putK kvs k v) (put ds (keyD k) d) := by
  unfold putK put
  rw [fzk_any k g]
  split
  · exact fzk_map k h g
  · exact fzk_app g (.cons h .nil)
theorem fzk_merge : ∀ {more : List (L2.Key × V)} {ms : List (D × D)} {kvs : List (L2.Key × V)} {ds : List (D × D)}, FzK K H O more ms → FzK K H O kvs ds → FzK K H O (mergeK kvs more) (putAll ds ms)
  | _, _, _, _, .nil, g => g
  | _, _, kvs, ds, .cons (k := k) (v := v) (kvs := r) (d := d) (ds := es) f h, g => by
    show FzK K H O (mergeK (putK kvs k v) r) (putAll (put ds (keyD k) d) es)
    exact fzk_merge h (fzk_put k f g)
theorem putAll_len : ∀ (ms ds : List (D × D)), (putAll ds ms).length ≤ ds.length + ms.length
  | [], ds => Nat.le_refl _
  | (a, b) :: r, ds => by
    have h := putAll_len r (put ds a b)
    have h2 : (put ds a b).length ≤ ds.length + 1 := by
      unfold put
      split
      · simp
      · simp
    show (putAll (put ds a b) r).length ≤ _
    simp only [List.length_cons]
    omega
end
section
variable {X : Cx} {C : Cc} {e a b c : Expr} {es : List Expr} {pos p2 : Pos} {wa wb wc wl wh : Wx} {lo hi : Option Expr}
/-- d[k] -/
theorem so_dget (hu : X.A.units + 1 < cLine) (hs : NoSl b) (ha : PE X a (tE C wa)) (hb : PE X b (tE C wb)) :
    PE X (.Subscript a b pos) (tE C fun env k => wa env fun va e1 => wb e1 fun vb e2 => with1 va e2 fun x => with1 vb e2 fun y => ∃ kvs, x = .dict kvs ∧ isKey y = true ∧ ∃ d, look kvs y = some d ∧ k (.fz d) e2) := by
  refine (pe_dget hu ha hb hs).weak fun σ H Q ⟨pn, env, O, k, K, W, q⟩ => ?_
  refine ⟨pn, env, O, _, K, W, fun va e1 x H1 O1 w1 k1 v1 s1 => ?_⟩
  obtain ⟨O1', k1', s1', h1⟩ := v1.settle k1
  refine ⟨pn, e1, O1', _, k1', w1, fun vb e2 y H2 O2 w2 k2 v2 s2 => ?_⟩
  obtain ⟨dx, ex, dy, ey, kvs, rfl, hk, d, hd, w3⟩ := w2
  obtain ⟨key, rfl⟩ := isKey_of hk
  obtain ⟨p, ks, rfl, ep, _, f⟩ := ((h1.step s2).rd k2 ex).dict
  have := rp_key (v2.rd k2 ey)
  subst this
  rcases fzk_look key f with ⟨_, n⟩ | ⟨v, d', l1, l2, fv⟩
  · rw [n] at hd; cases hd
  · rw [l2] at hd; cases hd
    exact ⟨p, v, rfl, .inl ⟨ks, key, .inl ep, rfl, l1.symm⟩, q _ _ _ _ _ w3 k2 fv (s1.trans (s1'.trans s2))⟩
/-- k in d, k not in d -/
theorem din_read {n : Bool} (σ : Sg) (H : Hp) (Q : VK) (h : tE C (fun env k => wa env fun va e1 => wb e1 fun vb e2 => with1 va e2 fun x => with1 vb e2 fun y => ∃ kvs, y = .dict kvs ∧ isKey x = true ∧ k (.fz (.bool ((look kvs x).isSome != n))) e2) σ H Q) :
    (if n = true then tDNotIn (tE C wa) (tE C wb) else tDIn (tE C wa) (tE C wb)) σ H Q := by
  obtain ⟨pn, env, O, k, K, W, q⟩ := h
  have main : (tE C wa) σ H fun y H1 => (tE C wb) σ H1 fun x H2 => ∃ a o, x = .ref a ∧ DGet H2 a y o ∧ Q (.bl (o.isSome != n)) H2 := by
    refine ⟨pn, env, O, _, K, W, fun va e1 x H1 O1 w1 k1 v1 s1 => ?_⟩
    obtain ⟨O1', k1', s1', h1⟩ := v1.settle k1
    refine ⟨pn, e1, O1', _, k1', w1, fun vb e2 y H2 O2 w2 k2 v2 s2 => ?_⟩
    obtain ⟨dx, ex, dy, ey, kvs, rfl, hk, w3⟩ := w2
    obtain ⟨key, rfl⟩ := isKey_of hk
    obtain ⟨p, ks, rfl, ep, _, f⟩ := (v2.rd k2 ey).dict
    have := rp_key ((h1.step s2).rd k2 ex)
    subst this
    have e : (valV ks key).isSome = (look kvs (keyD key)).isSome := by
      rcases fzk_look key f with ⟨l, n⟩ | ⟨v, d', l1, l2, fv⟩
      · rw [l, n]; rfl
      · rw [l1, l2]; rfl
    exact ⟨p, valV ks key, rfl, .inl ⟨ks, key, .inl ep, rfl, rfl⟩, by rw [e]; exact q _ _ _ _ _ w3 k2 (.bl _) (s1.trans (s1'.trans s2))⟩
  cases n with
  | true =>
    have e : ∀ o : Option V, (o.isSome != true) = !o.isSome := fun o => by cases o.isSome <;> rfl
    simp only [e] at main
    exact main
  | false =>
    have e : ∀ o : Option V, (o.isSome != false) = o.isSome := fun o => by cases o.isSome <;> rfl
    simp only [e] at main
    exact main
theorem so_dInE {n : Bool} (hu : X.A.units + 1 < cLine) (hm : behindInMarks (if n = true then .NotIn else .In) b = false) (ha : PE X a (tE C wa)) (hb : PE X b (tE C wb)) : PE X (.Compare a [if n = true then .NotIn else .In] [b] pos) (tE C fun env k => wa env fun va e1 => wb e1 fun vb e2 => with1 va e2 fun x => with1 vb e2 fun y => ∃ kvs, y = .dict kvs ∧ isKey x = true ∧ k (.fz (.bool ((look kvs x).isSome != n))) e2) := by
  cases n with
  | true => exact (pe_cmp (pc_dnotin hu ha hb) hm).weak fun σ H Q h => din_read (n := true) σ H Q h
  | false => exact (pe_cmp (pc_din hu ha hb) hm).weak fun σ H Q h => din_read (n := false) σ H Q h
theorem as_test' {t : TE} {W : Wx} (h : ∀ σ H Q, tE C W σ H Q → t σ H Q) : ∀ σ H Q, tT C W σ H Q → tTest t σ H Q := by
  intro σ H Q ⟨pn, env, O, k, K, W', q⟩
  refine h σ H _ ⟨pn, env, O, _, K, W', fun vl e1 v H1 O1 ⟨t, et, w1⟩ k1 v1 s1 => ?_⟩
  subst et
  cases (show Fz C.K H1 O1 v (.bool t) from v1)
  exact ⟨t, rfl, q _ _ _ _ w1 k1 s1⟩
theorem so_dInT {n : Bool} (hu : X.A.units + 1 < cLine) (hm : behindInMarks (if n = true then .NotIn else .In) b = false) (ha : PE X a (tE C wa)) (hb : PE X b (tE C wb)) : PT X (.Compare a [if n = true then .NotIn else .In] [b] pos) (tT C fun env k => wa env fun va e1 => wb e1 fun vb e2 => with1 va e2 fun x => with1 vb e2 fun y => ∃ kvs, y = .dict kvs ∧ isKey x = true ∧ k (.fz (.bool ((look kvs x).isSome != n))) e2) := by
  cases n with
  | true => exact (pt_cmp (pc_dnotin hu ha hb) hm).weak (as_test' fun σ H Q h => din_read (n := true) σ H Q h)
  | false => exact (pt_cmp (pc_din hu ha hb) hm).weak (as_test' fun σ H Q h => din_read (n := false) σ H Q h)
/-- d.get(k, x) -/
theorem so_dgetd {apos : Pos} (hu : X.A.units + 1 < cLine) (m : M2 X a "get" apos b c pos) (ha : PE X a (tE C wa)) (hb : PE X b (tE C wb)) (hc : PE X c (tE C wc)) :
    PE X (.Call (.Attribute a "get" apos) [b, c] [] pos) (tE C fun env k => wa env fun va e1 => (∃ q, va.rd e1 = some (.dict q)) ∧ wb e1 fun vb e2 => wc e2 fun ve e3 => ve.give e3 fun z e4 => with1 va e4 fun x => with1 vb e4 fun y => ∃ kvs, x = .dict kvs ∧ isKey y = true ∧ k (.fz ((look kvs y).getD z)) e4) := by
  refine (pe_dget2 hu ha hb hc m).weak fun σ H Q ⟨pn, env, O, k, K, W, q⟩ => ?_
  refine ⟨pn, env, O, _, K, W, fun va e1 x H1 O1 ⟨⟨q0, e0⟩, w1⟩ k1 v1 s1 => ?_⟩
  obtain ⟨p0, ks0, rfl, ep0, _⟩ := (v1.rd k1 e0).dict
  refine ⟨p0, rfl, .inl ⟨ks0, .inl ep0⟩, ?_⟩
  obtain ⟨O1', k1', s1', h1⟩ := v1.settle k1
  refine ⟨pn, e1, O1', _, k1', w1, fun vb e2 y H2 O2 w2 k2 v2 s2 => ?_⟩
  obtain ⟨O2', k2', s2', h2⟩ := v2.settle k2
  refine ⟨pn, e2, O2', _, k2', w2, fun ve e3 z H3 O3 w3 k3 v3 s3 => ?_⟩
  obtain ⟨dz, e4, O4, w4, k4, s4, f4⟩ := v3.give k3 w3
  obtain ⟨dx, ex, dy, ey, kvs, rfl, hk, w5⟩ := w4
  obtain ⟨key, rfl⟩ := isKey_of hk
  have st := s2'.trans (s3.trans s4)
  obtain ⟨p, ks, er, ep, _, f⟩ := ((h1.step (s2.trans st)).rd k4 ex).dict
  cases er
  have := rp_key ((h2.step (s3.trans s4)).rd k4 ey)
  subst this
  refine ⟨valV ks key, .inl ⟨ks, key, .inl ep, rfl, rfl⟩, ?_⟩
  refine q _ _ _ _ _ w5 k4 ?_ (s1.trans (s1'.trans (s2.trans st)))
  rcases fzk_look key f with ⟨l, n⟩ | ⟨v, d', l1, l2, fv⟩
  · rw [l, n]; exact f4
  · rw [l1, l2]; exact fv

/-! ### displays -/
inductive Trs (F : Fns) (C : Cc) : Ex → List (TE × TE) → Prop
  | nil : Trs F C .nil []
  | cons {a b r : Ex} {trs : List (TE × TE)} : Trs F C r trs → Trs F C (.cons a (.cons b r)) ((tE C (w F a), tE C (w F b)) :: trs)
def flatP : List (V × V) → List V
  | [] => []
  | (x, y) :: r => x :: y :: flatP r
theorem pairs_read {F : Fns} : ∀ {e : Ex} {trs : List (TE × TE)}, Trs F C e trs → ∀ (σ : Sg) (H : Hp) (R : List (V × V) → Hp → Prop),
    (∃ pn env O k, Ok8 C C.so pn σ H env O ∧ w F e env k ∧ ∀ ds env' ps H' O', k (.fz (.tuple ds)) env' → Ok8 C C.so pn σ H' env' O' → FzL C.K H' O' (flatP ps) ds → Step H O H' O' → R ps H') → tPairs trs σ H R
  | _, _, .nil, σ, H, R, ⟨pn, env, O, k, K, W, q⟩ => q [] env [] H O W K .nil .refl
  | _, _, .cons (a := a) (b := b) (r := r) t, σ, H, R, ⟨pn, env, O, k, K, W, q⟩ => by
    refine ⟨pn, env, O, _, K, W, fun va e1 x H1 O1 w1 k1 v1 s1 => ?_⟩
    obtain ⟨dx, e2, O2, w2, k2, s2, f2⟩ := v1.give k1 w1
    refine ⟨pn, e2, O2, _, k2, w2, fun vb e3 y H3 O3 w3 k3 v3 s3 => ?_⟩
    obtain ⟨dy, e4, O4, w4, k4, s4, f4⟩ := v3.give k3 w3
    refine pairs_read t σ _ _ ⟨pn, e4, O4, _, k4, w4, fun ds e5 ps H5 O5 ⟨xs, ex, w5⟩ k5 f5 s5 => ?_⟩
    cases ex
    obtain ⟨ys, ey, w6⟩ := w5
    cases ey
    exact q _ _ _ _ _ w6 k5 (.cons (f2.step (s3.trans (s4.trans s5))) (.cons (f4.step s5) f5)) (s1.trans (s2.trans (s3.trans (s4.trans s5))))
theorem pairs_kvs {K : PySem.W.Frag} {H : Hp} {O : Addr → Prop} : ∀ {ps : List (V × V)} {ds : List D} {pd : List (D × D)}, FzL K H O (flatP ps) ds → pairs? ds = some pd → ∃ kvs : List (L2.Key × V), ps = kvs.map (fun kv => (kV kv.1, kv.2)) ∧ FzK K H O kvs pd
  | [], _, pd, f, h => by
    cases f
    cases h
    exact ⟨[], rfl, .nil⟩
  | (x, y) :: r, _, pd, f, h => by
    cases f with
    | cons f1 f =>
      cases f with
      | cons f2 f =>
        unfold pairs? at h
        split at h
        · rename_i hk
          rw [Option.map_eq_some_iff] at h
          obtain ⟨pr, h1, rfl⟩ := h
          obtain ⟨kvs, rfl, g⟩ := pairs_kvs f h1
          obtain ⟨key, rfl⟩ := isKey_of hk
          have := fz_key f1
          subst this
          exact ⟨(key, y) :: kvs, rfl, .cons f2 g⟩
        · cases h
theorem so_dic0 {F : Fns} : PE X (.Dict [] [] pos) (tE C (w F (.dic .nil))) := by
  refine pe_dnewK.weak fun σ H Q ⟨pn, env, O, k, K, W, q⟩ => ?_
  intro p n
  simp only [w] at W
  obtain ⟨xs, ex, ps, hps, _, W⟩ := W
  cases ex
  cases hps
  obtain ⟨O3, k3, v3, s3⟩ := Res.ok K (.dic (O := O) (vs := []) (ds := []) n (Nat.zero_le _) .nil)
  exact q _ _ _ _ _ W k3 v3 s3
theorem so_dic {F : Fns} {ex : Ex} {trs : List (TE × TE)} {keys : List (Option Expr)} {values : List Expr} (t : Trs F C ex trs) (hp : PPs X pos keys values trs) (hall : keys.all (·.isSome) = true) (hl : keys.length = values.length) (h0 : keys ≠ []) (h15 : keys.length ≤ 15) :
    PE X (.Dict keys values pos) (tE C (w F (.dic ex))) := by
  refine (pe_disp hp hall hl h0 h15).weak fun σ H Q ⟨pn, env, O, k, K, W, q⟩ => ?_
  intro p n
  have hnp : ∀ r ∈ pn, r.1 ≠ p := fun r hr => ne_new n (K.pin r hr).1
  simp only [w] at W
  refine pairs_read t σ _ _ ⟨(p, .dK []) :: pn, env, _, _, K.pinNew n, W, fun ds e1 ps H1 O1 ⟨xs, ex, pd, hpd, h15', w1⟩ k1 f1 s1 => ?_⟩
  cases ex
  obtain ⟨kvs, rfl, g⟩ := pairs_kvs f1 hpd
  obtain ⟨eD, oD, hb, no, ns⟩ := k1.pin _ List.mem_cons_self
  have hlen : kvs.length ≤ 15 := by rw [g.length]; exact h15'
  refine ⟨eD, kvs, rfl, hlen, ?_⟩
  have fm := (fzk_merge g (.nil (K := C.K) (H := H1) (O := O1)))
  have hz : (mergeK [] kvs).length ≤ sizeLine := by
    rw [fm.length, sizeLine_eq]
    have := putAll_len pd []
    simp at this
    omega
  exact q _ _ _ _ _ w1 (k1.pinSet (u' := .dK (mergeK [] kvs)) hnp).unpin ⟨p, rfl, oD, hb, ⟨_, upd_same, hz, FzK.step (step_write oD) fm⟩, no, ns, hnp⟩ ((step_own n).trans (s1.trans (step_write oD)))

/-! ### index -/
theorem find_first {α : Type} {p : α → Bool} : ∀ {xs : List α} {j : Nat}, xs.findIdx? p = some j → (∃ z, xs[j]? = some z ∧ p z = true) ∧ ∀ (m : Nat) (z : α), m < j → xs[m]? = some z → p z = false := by
  intro xs j h
  rw [List.findIdx?_eq_some_iff_getElem] at h
  obtain ⟨hj, hp, hn⟩ := h
  refine ⟨⟨xs[j], by simp [hj], hp⟩, fun m z hm hz => ?_⟩
  obtain ⟨hm', rfl⟩ := List.getElem?_eq_some_iff.mp hz
  simpa using hn m hm
/-- t.index(x) of a tuple of plain things -/
def rIndexT (K : PySem.W.Frag) : V → List V → Hp → VK → Prop := fun x xs H Q => ∃ (a : Addr) (ys : List V) (y : V) (j : Nat) (z : V), x = V.ref a ∧ xs = [y] ∧ SqT K H a ys ∧ flatV y = true ∧ ys.all flatV = true ∧ ys[j]? = some z ∧ eqV z y = true ∧
  (∀ (m : Nat) (z' : V), m < j → ys[m]? = some z' → eqV z' y = false) ∧ Q (.int (j : Nat)) H
theorem mt_indexT : MtR X "tuple.index" (rIndexT X.K) := by
  intro pins s σ H x xs v us Q I rx rxs h
  obtain ⟨a, ys, y, j, z, rfl, rfl, hs, fy, fys, hz, hzj, hno, q⟩ := h
  cases rx
  obtain ⟨uy, rfl, ry⟩ := vals1 rxs
  obtain ⟨its, rv, pl, hlen⟩ := I.tuple hs
  obtain ⟨⟨cls, dd, dt, sl⟩, ho, hc, n, hd⟩ := pl
  simp only at hc hd
  subst hc hd
  obtain ⟨u, hu, ru⟩ := rv.get hz
  obtain ⟨hjl, hje⟩ := List.getElem?_eq_some_iff.mp hu
  have hvl := rv.length
  have hj : j < its.toArray.size := by simpa using hjl
  refine call_meets PySem.F.slot_tuple_index ⟨_, ho, rfl⟩ PySem.F.entry_tuple_index (PySem.F.args_tuple_index_2 _ _)
    (TI.tuple_indexAt a its.toArray n dd sl uy (eqU y) j hj ?_ ?_) ⟨ho, fun u' hu' => mem_eqAt ry fy rv fys u' (by simpa using hu'), ⟨.int (j : Nat), H, I.tok _, ⟨_, rfl⟩, q⟩⟩
  · have e1 : its.toArray[j] = u := by simpa using hje
    rw [e1, eqU_of ru (flat_at fys hz)]
    exact hzj
  · intro m hm hmj
    have hml : m < its.length := by simpa using hm
    have hmy : m < ys.length := by omega
    have hy' : ys[m]? = some ys[m] := List.getElem?_eq_getElem hmy
    obtain ⟨u2, hu2, ru2⟩ := rv.get hy'
    have e1 : its.toArray[m] = u2 := by
      have := (List.getElem?_eq_some_iff.mp hu2).2
      simpa using this
    rw [e1, eqU_of ru2 (flat_at fys hy')]
    exact hno m _ hmj hy'
theorem idx_read {K : PySem.W.Frag} {H : Hp} {O : Addr → Prop} {vs : List V} {xs : List D} {v : V} {y : D} {j : Nat} (f : FzL K H O vs xs) (fy : Fz K H O v y) (h1 : Flat y = true) (h2 : xs.all Flat = true) (h : xs.findIdx? (fun z => PyData.eqv z y) = some j) :
    flatV v = true ∧ vs.all flatV = true ∧ ∃ z, vs[j]? = some z ∧ eqV z v = true ∧ ∀ (m : Nat) (z' : V), m < j → vs[m]? = some z' → eqV z' v = false := by
  obtain ⟨⟨z, hz, pz⟩, hn⟩ := find_first h
  have flx : ∀ {i : Nat} {z : D}, xs[i]? = some z → Flat z = true := fun hz => List.all_eq_true.mp h2 _ (List.mem_of_getElem? hz)
  obtain ⟨u, hu, fu⟩ := f.get' hz
  refine ⟨flat_v fy h1, flats f h2, u, hu, ?_, fun m z' hm hz' => ?_⟩
  · rw [eqV_eqv fu fy (flx hz) h1]; exact pz
  · obtain ⟨d, hd, fd⟩ := f.get hz'
    rw [eqV_eqv fd fy (flx hd) h1]
    exact hn m d hm hd
theorem so_indexL {apos : Pos} (hK : X.K = C.K) (hl : (apos.endLine == pos.line) = true) (ha : PE X a (tE C wa)) (hb : PE X b (tE C wb)) (hbase : attributeBase a "index" X.env (eval a X.env) = eval a X.env) (hs : starEach [b] X.env = [(false, eval b X.env)]) :
    PE X (.Call (.Attribute a "index" apos) [b] [] pos) (tE C fun env k => wa env fun va e1 => (∃ q, va.rd e1 = some (.list q)) ∧ wb e1 fun vb e2 => with1 va e2 fun x => with1 vb e2 fun y => b2S .indexL x y fun fr d => k (rets fr d) e2) := by
  refine (pe_bm PySem.F.plainAttrs_list PySem.F.slot_list_index PySem.F.type_list_index mt_index ha (pa_cons hb pa_nil hs) hbase (by rw [hs]; rfl) hl hs rfl).weak fun σ H Q ⟨pn, env, O, k, K, W, q⟩ => ?_
  refine ⟨pn, env, O, _, K, W, fun va e1 x H1 O1 ⟨⟨q0, e0⟩, w1⟩ k1 v1 s1 => ?_⟩
  obtain ⟨p0, vs0, rfl, ep0, _⟩ := (v1.rd k1 e0).list
  obtain ⟨O1', k1', s1', h1⟩ := v1.settle k1
  refine ⟨.inl ⟨rfl, vs0, SqL.of ep0⟩, pn, e1, O1', _, k1', w1, fun vb e2 y H2 O2 w2 k2 v2 s2 => ?_⟩
  obtain ⟨dx, ex, dy, ey, w3⟩ := w2
  cases dx with
  | list xs =>
    obtain ⟨f1, f2, j, hj, w4⟩ := w3
    obtain ⟨p, vs, er, ep, z, f⟩ := ((h1.step s2).rd k2 ex).list
    cases er
    have fy := rp_flat (v2.rd k2 ey) f1
    obtain ⟨g1, g2, z, hz, g3, g4⟩ := idx_read f fy f1 f2 hj
    rw [hK]
    exact ⟨p0, vs, y, j, z, rfl, rfl, SqL.of ep, g1, g2, hz, g3, g4, q _ _ _ _ _ w4 k2 (.int _) (s1.trans (s1'.trans s2))⟩
  | _ => exact w3.elim
theorem so_indexT {apos : Pos} (hK : X.K = C.K) (hl : (apos.endLine == pos.line) = true) (ha : PE X a (tE C wa)) (hb : PE X b (tE C wb)) (hbase : attributeBase a "index" X.env (eval a X.env) = eval a X.env) (hs : starEach [b] X.env = [(false, eval b X.env)]) :
    PE X (.Call (.Attribute a "index" apos) [b] [] pos) (tE C fun env k => wa env fun va e1 => (∃ q, va.rd e1 = some (.tuple q)) ∧ wb e1 fun vb e2 => with1 va e2 fun x => with1 vb e2 fun y => b2S .indexT x y fun fr d => k (rets fr d) e2) := by
  refine (pe_bmT PySem.F.slot_tuple_index PySem.F.type_tuple_index mt_indexT ha (pa_cons hb pa_nil hs) hbase (by rw [hs]; rfl) hl hs rfl).weak fun σ H Q ⟨pn, env, O, k, K, W, q⟩ => ?_
  refine ⟨pn, env, O, _, K, W, fun va e1 x H1 O1 ⟨⟨q0, e0⟩, w1⟩ k1 v1 s1 => ?_⟩
  obtain ⟨p0, vs0, rfl, ty0, _⟩ := (v1.rd k1 e0).tupT
  obtain ⟨O1', k1', s1', h1⟩ := v1.settle k1
  refine ⟨⟨p0, rfl, by rw [hK]; exact ty0⟩, pn, e1, O1', _, k1', w1, fun vb e2 y H2 O2 w2 k2 v2 s2 => ?_⟩
  obtain ⟨dx, ex, dy, ey, w3⟩ := w2
  cases dx with
  | tuple xs =>
    obtain ⟨f1, f2, j, hj, w4⟩ := w3
    obtain ⟨p, vs, er, ep, z, f⟩ := ((h1.step s2).rd k2 ex).tup
    cases er
    have fy := rp_flat (v2.rd k2 ey) f1
    obtain ⟨g1, g2, z, hz, g3, g4⟩ := idx_read f fy f1 f2 hj
    rw [hK]
    exact ⟨p0, vs, y, j, z, rfl, rfl, ep, g1, g2, hz, g3, g4, q _ _ _ _ _ w4 k2 (.int _) (s1.trans (s1'.trans s2))⟩
  | _ => exact w3.elim
end
end Ev
set_option maxHeartbeats 400000
/-! EvMore3: sorted of data, sum, max and min of tuples. -/
namespace Ev
open PySem PySem.Spec PySem.Calls PyProof.Rows L2

section
variable {prog : Program} {w : World} {A : Around} {E : Value → Shared → Prop} {s : Shared}
theorem collect_tup {l : Addr} {vs : List Value} {Q : List Value → Shared → Prop} (hl : s.heap.IsTuple l vs.toArray)
    (h : Q vs { s with heap := (s.heap.push (seqObj "list" #[] 0)).update s.heap.objs.size (Obj.mapSeq (· ++ vs.toArray)) }) (hsz : vs.length ≤ sizeLine) :
    wpAny (model prog w) A (collect (.ref l)) Q E s := by
  obtain ⟨o, ho, hc, n, hd⟩ := id hl
  unfold collect
  refine wpAny_bind (wpAny_runValue (codeAny_builtin entry_proto_collect' ?_))
  show wpAny _ _ (do again (.builtin "list.__iadd__" ⟨[← newList [], .ref l], []⟩)) _ _ s
  refine wpAny_bind (wpAny_newList (wpAny_pure ⟨Code.quiet_builtin _ (by decide +kernel), codeAny_builtin entry_list_iadd' ?_⟩))
  show wpAny _ _ (Builtin.List.listExtendWith (.ref s.heap.objs.size) (.ref l) (.ref s.heap.objs.size)) _ _ { s with heap := s.heap.push (seqObj "list" #[] 0) }
  unfold Builtin.List.listExtendWith
  have ho' : (s.heap.push (seqObj "list" #[] 0)).get? l = some o := Heap.get?_push_of_some _ ho
  refine wpAny_bind (wpAny_typeOf (T := "tuple") ⟨o, ho', hc⟩ ?_)
  have ht : (Value.type "tuple" == Value.type "tuple") = true := by rfl
  rw [if_pos (by rw [ht]; simp)]
  refine wpAny_bind (listItems_at ho' hd ?_)
  refine wpAny_bind (listItems_at (xs := #[]) (n := 0) (Heap.get?_push_size _ rfl) rfl ?_)
  rw [if_neg (by simp)]
  refine wpAny_bind (listUpdate_at (xs := #[]) (n := 0) (Heap.get?_push_size _ rfl) rfl ?_ (Nat.zero_le _) (by show (#[] ++ vs.toArray).size ≤ sizeLine + 1; simp only [Array.size_append, List.size_toArray, List.length_nil]; omega))
  refine wpAny_pure ?_
  show wpAny (model prog w) A (do
      let o ← load s.heap.objs.size
      match o.data with
      | .seq xs _ => pure xs.toList
      | _ => unsupported "internal:collect") Q E { s with heap := (s.heap.push (seqObj "list" #[] 0)).update s.heap.objs.size (Obj.mapSeq (· ++ vs.toArray)) }
  refine wpAny_bind (wpAny_load (get?_update_seq (Heap.get?_push_size _ rfl) _) ?_)
  show wpAny _ _ (pure ((#[] : Array Value) ++ vs.toArray).toList) Q E _
  rw [show ((#[] : Array Value) ++ vs.toArray).toList = vs by simp]
  exact wpAny_pure h
/-- a list or a tuple with these items -/
def SeqV (h : Heap) (l : Addr) (vs : List Value) : Prop := h.IsList l vs.toArray ∨ h.IsTuple l vs.toArray
theorem collect_sq {l : Addr} {vs : List Value} {Q : List Value → Shared → Prop} (hl : SeqV s.heap l vs)
    (h : Q vs { s with heap := (s.heap.push (seqObj "list" #[] 0)).update s.heap.objs.size (Obj.mapSeq (· ++ vs.toArray)) }) (hsz : vs.length ≤ sizeLine) :
    wpAny (model prog w) A (collect (.ref l)) Q E s := by
  rcases hl with hl | hl
  · exact collect_list hl h hsz
  · exact collect_tup hl h hsz
theorem sorted_sq {l : Addr} {vs : List Value} {Q : Value → Shared → Prop} (hl : SeqV s.heap l vs) (hL : vs.length ≤ sizeLine)
    (body : ∀ E' : Value → Shared → Prop, wpAny (model prog w) A.in1.in1 (Builtin.«list.sort» ⟨[.ref (s.heap.objs.size + 1)], []⟩) (fun f s' => f = .done (.ret .none) ∧ Q (.ref (s.heap.objs.size + 1)) s') E' { s with heap := PySem.W.copyHeap s.heap vs }) :
    wpAny (model prog w) A (call (.builtin "sorted") [.ref l]) Q E s := by
  refine call_function_entry_kw kind_sorted plain_sorted entry_sorted (args_sorted1 _) ?_
  unfold Builtin.«sorted»
  refine wpAny_bind (m := checkCount "sorted" 1 1 _) (wpAny_pure ?_)
  refine wpAny_bind (collect_sq hl ?_ hL)
  refine wpAny_bind (wpAny_newList ?_ hL)
  have hsz : ((s.heap.push (seqObj "list" #[] 0)).update s.heap.objs.size (Obj.mapSeq (· ++ vs.toArray))).objs.size = s.heap.objs.size + 1 := by
    rw [Heap.size_update, size_push']
  show wpAny _ _ _ _ _ { s with heap := PySem.W.copyHeap s.heap vs }
  rw [hsz]
  refine wpAny_bind (wpAny_holding (wpAny_call_entry_kw slot_list_sort ⟨_, PySem.W.copyHeap_at s.heap vs, rfl⟩ entry_list_sort ?body (args_list_sort _)))
  case body =>
    show wpAny (model prog w) A.in1.in1 (Builtin.«list.sort» ⟨[.ref (s.heap.objs.size + 1)], []⟩) _ _ _
    refine wpAny_mono (body _) (fun f s' hf => ?_) fun _ _ e => e
    obtain ⟨rfl, hq⟩ := hf
    exact ⟨_, rfl, wpAny_pure ⟨_, rfl, hq⟩⟩
theorem perm_short {α : Type} : ∀ {l m : List α}, l.Perm m → m.length < 2 → l = m
  | _, [], p, _ => List.perm_nil.mp p
  | _, [v], p, _ => List.perm_singleton.mp p
  | _, _ :: _ :: _, _, h => absurd h (by simp)
theorem sort_short : ∀ {l : List D}, l.length < 2 → sortD l = l
  | [], _ => List.mergeSort_nil
  | [b], _ => List.mergeSort_singleton b
  | _ :: _ :: _, h => absurd h (by simp)
/-- sorted of data, from a list or a tuple -/
theorem sorted_dat {R : Value → D → Prop} {l : Addr} {vs : List Value} {bs : List D} {Q : Value → Shared → Prop} (hl : SeqV s.heap l vs) (e : PySem.W.EachIs R vs bs) (er : PySem.W.EachIs (fun v b => ∃ as, Reads s.heap v b as) vs bs) (hal : bs.length < 2 ∨ (PySem.W.AllAlike bs ∧ PySem.W.Sortable bs)) (hL : vs.length ≤ sizeLine)
    (hu : ∀ b, b ∈ bs → A.units + 2 + b.depth < cLine) (h : ∀ out, out.length = bs.length → PySem.W.EachIs R out (sortD bs) → Q (.ref (s.heap.objs.size + 1)) { s with heap := sortedAll s.heap vs (List.toArray out) }) :
    wpAny (model prog w) A (call (.builtin "sorted") [.ref l]) Q E s := by
  have el := e.length
  by_cases h2 : vs.length < 2
  · refine sorted_sq hl hL fun E' => ?_
    have O : SrtO.Swo (fun _ _ : Value => false) := ⟨fun _ _ _ => rfl, fun _ _ _ _ _ => rfl⟩
    refine SrtO.list_sort_ord (s := { s with heap := PySem.W.copyHeap s.heap vs }) O (PySem.W.copyHeap_at s.heap vs) hL (fun h => absurd h (by omega)) fun out h1 hb => ⟨rfl, ?_⟩
    have eo : out = vs := perm_short hb.perm h2
    subst eo
    have es : sortD bs = bs := sort_short (by omega)
    exact h out el (by rw [es]; exact e)
  · have hk : PySem.W.AllAlike bs ∧ PySem.W.Sortable bs := by
      rcases hal with q | q
      · omega
      · exact q
    have hm : bs.map id = bs := List.map_id bs
    have er' : PySem.W.EachIs (fun v b => ∃ as, Reads (PySem.W.sortingHeap (PySem.W.copyHeap s.heap vs) (s.heap.objs.size + 1) vs) v (id b) as) vs bs := er.mono fun _ _ ⟨as, r⟩ => ⟨as, PyProof.Rows.Reads.keeps (fun _ _ => PySem.W.sorting_copy_old) r⟩
    refine sorted_sq hl hL fun E' => ?_
    refine PySem.W.list_sort_vals (s := { s with heap := PySem.W.copyHeap s.heap vs }) (PySem.W.copyHeap_at s.heap vs) (PySem.W.SortsAt.data (s := { s with heap := PySem.W.sortingHeap (PySem.W.copyHeap s.heap vs) (s.heap.objs.size + 1) vs }) er' hk.1 hk.2 hu) hL ⟨rfl, ?_⟩
    have sv := PySem.W.sortVals_data (enc := id) false e er' (by rw [hm]; exact hk.1)
    rw [hm] at sv
    exact h _ (by rw [PySem.W.sortVals_length false rfl]; exact el) sv
theorem iter_tupI {l : Addr} {xs : Array (Int × Tok)} {Q : Value → Shared → Prop} (hl : s.heap.IsTuple l (intItems xs))
    (h : ∀ s₂ : Shared, s₂ = { s with heap := s.heap.push { cls := .type "tuple_iterator", data := .fields #[.ref l, .int 0 0] } } → s₂.heap.IsTupleIter s.heap.objs.size l 0 ∧ s₂.heap.IsTuple l (intItems xs) → (∀ b ∈ [s.heap.objs.size, l], b < s₂.heap.objs.size) → l ≠ s.heap.objs.size → Q (.ref s.heap.objs.size) s₂) : wpAny (model prog w) A (pyIter (.ref l)) Q E s := by
  have hlt : l < s.heap.objs.size := by obtain ⟨_, e, _⟩ := hl; exact Heap.lt_size e
  refine wpAny_pyIter_tuple hl (h _ rfl ⟨⟨_, Heap.get?_push_size _ rfl, rfl, rfl⟩, hl.push _⟩ (fun b hb => ?_) (Nat.ne_of_lt hlt))
  show b < (s.heap.push _).objs.size
  rw [Heap.size_push]
  rcases List.mem_cons.mp hb with rfl | hb
  · exact Nat.lt_succ_self _
  · rcases List.mem_cons.mp hb with rfl | hb
    · exact Nat.lt_succ_of_lt hlt
    · cases hb
theorem sum_tup {l : Addr} {its : List Value} {ns : List Int} {Q : Value → Shared → Prop} (hh : A.handled = none) (hl : s.heap.IsTuple l its.toArray) (hi : IntsAre its ns)
    (h : ∀ h' tk t', (∀ b o, s.heap.get? b = some o → h'.get? b = some o) → Q (.int ns.sum t') { s with heap := h', toks := tk }) : wpAny (model prog w) A (call (.builtin "sum") [.ref l]) Q E s := by
  obtain ⟨xs, e⟩ := hi.allInts.items
  have hn : numsOf (intItems xs).toList = ns := by rw [← e]; exact hi.numsOf
  rw [nums_intItems] at hn
  rw [e] at hl
  refine call_sum_walkG (iter_tupI hl fun s₂ e st hfp hne => ?_)
  subst e
  refine ⟨_, _, _, _, _, _, numAt xs, rfl, Walks.tuple (A := A.in1) hh _ l hne (intItems xs), st, hfp, (fun _ _ => intItems_at), fun h' tk t' hk => ?_⟩
  have := h h' tk t' (fun b o e => hk b o (fun hb => absurd (Heap.lt_size e) ((List.mem_singleton.mp hb) ▸ Nat.lt_irrefl _)) (Heap.get?_push_of_some _ e))
  have e2 : preSum (numAt xs) (intItems xs).size = ns.sum := by
    rw [show (intItems xs).size = xs.size by simp [intItems], preSum_eq, List.take_of_length_le (by simp), hn]
  rw [e2]
  exact this
end

section
variable {X : Cx} {K : PySem.W.Frag} {H : Hp} {O : Addr → Prop} {x : V} {dx : D} {k : Bool → D → Prop} {Q : VK}
def rSortD (K : PySem.W.Frag) : List V → Hp → VK → Prop := fun vs H Q => ∃ (a : Addr) (ys : List V) (ds : List D) (O : Addr → Prop), vs = [V.ref a] ∧ (SqL K H a ys ∨ SqT K H a ys) ∧ FzL K H O ys ds ∧ SortsD ds ∧
  ∀ (zs : List V) (p : Addr), zs.length = ys.length → FzL K H O zs (sortD ds) → H p = none → Q (.ref p) (upd H p (.lst zs))
theorem each_of : ∀ {ys : List V} {us : List Value} {ds : List D}, Vals ys us → FzL K H O ys ds → PySem.W.EachIs (fun u d => ∃ v, RelV v u ∧ Fz K H O v d) us ds
  | _, _, _, .nil, .nil => .nil
  | _, _, _, .cons r rr, .cons f ff => .cons ⟨_, r, f⟩ (each_of rr ff)
theorem of_each : ∀ {us : List Value} {ds : List D}, PySem.W.EachIs (fun u d => ∃ v, RelV v u ∧ Fz K H O v d) us ds → ∃ zs, Vals zs us ∧ FzL K H O zs ds
  | _, _, .nil => ⟨[], .nil, .nil⟩
  | _, _, .cons ⟨v, r, f⟩ t => by
    obtain ⟨zs, a, b⟩ := of_each t
    exact ⟨v :: zs, .cons r a, .cons f b⟩
theorem each_mem {α β : Type} {R R' : α → β → Prop} : ∀ {as : List α} {bs : List β}, PySem.W.EachIs R as bs → (∀ a b, b ∈ bs → R a b → R' a b) → PySem.W.EachIs R' as bs
  | _, _, .nil, _ => .nil
  | _, _, .cons h t, g => .cons (g _ _ List.mem_cons_self h) (each_mem t fun a b hb => g a b (List.mem_cons_of_mem _ hb))
theorem cr_sortD (hu : X.A.units + 64 < cLine) : CallR X (.builtin "sorted") (rSortD X.K) := by
  intro pins s σ H vs us Q I r h
  obtain ⟨a, ys, ds, O, rfl, hs, f, ⟨hal, hdp⟩, q⟩ := h
  have main : ∃ its, Vals ys its ∧ SeqV s.heap a its ∧ ys.length ≤ sizeLine := by
    rcases hs with hs | hs
    · obtain ⟨its, rv, hl, hz⟩ := I.list hs
      exact ⟨its, rv, .inl hl.isList, hz⟩
    · obtain ⟨its, rv, hl, hz⟩ := I.tuple hs
      exact ⟨its, rv, .inr hl, hz⟩
  obtain ⟨its, rv, hl, hz⟩ := main
  rw [Vals.ref1 r]
  have e := each_of rv f
  refine sorted_dat hl e (each_mem e fun u d hd ⟨v, ru, fv⟩ => Dp.reads I d v u (fv.dp (hdp d hd).2) ru) hal (by rw [← rv.length]; exact hz) (fun d hd => by have := (hdp d hd).1; omega) fun out ho eo => ?_
  obtain ⟨zs, z1, z2⟩ := of_each eo
  obtain ⟨ep, he'⟩ := PyProof.Rows.sortedAll_at s.heap its out.toArray
  have hzl : zs.length = ys.length := by rw [z1.length, ho, f.length]
  exact ⟨.ref _, upd H (s.heap.objs.size + 1) (.lst zs), I.laid (t' := s.toks) (fun _ _ => PyProof.Rows.sortedAll_old) (Nat.le_succ _) ⟨by rw [hzl]; exact hz, out, ep, z1, he'⟩, rfl, q zs _ hzl z2 (I.hok.fresh (Nat.le_succ _))⟩
theorem v_sortD (rx : Rp K H O x dx) (h : b1S .sortD dx k) (q : ∀ fr d v H', k fr d → Res K H O fr d v H' → Q v H') : rSortD K [x] H Q := by
  have main : ∃ xs, items? dx = some xs ∧ SortsD xs ∧ k true (.list (sortD xs)) := by cases dx <;> first | exact ⟨_, rfl, h⟩ | exact h.elim
  obtain ⟨xs, e, so, hk⟩ := main
  obtain ⟨p, vs, rfl, hq, z, f⟩ := rp_seq rx e
  exact ⟨p, vs, xs, O, rfl, hq, f, so, fun zs l hz fz n => q _ _ _ _ hk (.lst n (by rw [hz]; exact z) fz)⟩
def rSumT (K : PySem.W.Frag) : List V → Hp → VK → Prop := fun vs H Q => ∃ (a : Addr) (ns : List Int), vs = [V.ref a] ∧ SqT K H a (ns.map V.int) ∧ Q (.int ns.sum) H
theorem cr_sumT (hc : X.calm = true) : CallR X (.builtin "sum") (rSumT X.K) := by
  intro pins s σ H vs us Q I r h
  obtain ⟨a, ns, rfl, hs, q⟩ := h
  obtain ⟨its, rv, hl, _⟩ := I.tuple hs
  rw [Vals.ref1 r]
  exact sum_tup (I.ok.hd hc) hl rv.ints fun h' tk t' hk => ⟨.int _, H, I.kept hk, ⟨_, rfl⟩, q⟩
theorem v_sumT (rx : Rp K H O x dx) (h : b1S .sumT dx k) (q : ∀ fr d v H', k fr d → Res K H O fr d v H' → Q v H') : rSumT K [x] H Q := by
  cases dx with
  | tuple xs =>
    obtain ⟨bs, e, hk⟩ := h
    obtain ⟨p, vs, rfl, e1, z, f⟩ := rx.tup
    have := f.ints e
    subst this
    exact ⟨p, bs, rfl, e1, q _ _ _ _ hk (.old (.int _))⟩
  | _ => exact h.elim
def rMaxT (K : PySem.W.Frag) : List V → Hp → VK → Prop := fun vs H Q => ∃ (a : Addr) (ns : List Int), vs = [V.ref a] ∧ SqT K H a (ns.map V.int) ∧ 0 < ns.length ∧ ∀ m, m ∈ ns → (∀ y, y ∈ ns → y ≤ m) → Q (.int m) H
def rMinT (K : PySem.W.Frag) : List V → Hp → VK → Prop := fun vs H Q => ∃ (a : Addr) (ns : List Int), vs = [V.ref a] ∧ SqT K H a (ns.map V.int) ∧ 0 < ns.length ∧ ∀ m, m ∈ ns → (∀ y, y ∈ ns → m ≤ y) → Q (.int m) H
theorem fold_max : ∀ (ns : List Int) (n : Int), ns.foldl max n ∈ n :: ns ∧ ∀ y ∈ n :: ns, y ≤ ns.foldl max n
  | [], n => ⟨by simp, fun y hy => by simp at hy; simp [hy]⟩
  | a :: r, n => by
    obtain ⟨h1, h2⟩ := fold_max r (max n a)
    simp only [List.foldl_cons]
    refine ⟨?_, fun y hy => ?_⟩
    · rcases List.mem_cons.mp h1 with e | e
      · rw [e]
        by_cases hh : n ≤ a
        · rw [show max n a = a by omega]; simp
        · rw [show max n a = n by omega]; simp
      · exact List.mem_cons_of_mem _ (List.mem_cons_of_mem _ e)
    · have h3 := h2 (max n a) List.mem_cons_self
      rcases List.mem_cons.mp hy with rfl | hy
      · omega
      · rcases List.mem_cons.mp hy with rfl | hy
        · omega
        · exact h2 y (List.mem_cons_of_mem _ hy)
theorem fold_min : ∀ (ns : List Int) (n : Int), ns.foldl min n ∈ n :: ns ∧ ∀ y ∈ n :: ns, ns.foldl min n ≤ y
  | [], n => ⟨by simp, fun y hy => by simp at hy; simp [hy]⟩
  | a :: r, n => by
    obtain ⟨h1, h2⟩ := fold_min r (min n a)
    simp only [List.foldl_cons]
    refine ⟨?_, fun y hy => ?_⟩
    · rcases List.mem_cons.mp h1 with e | e
      · rw [e]
        by_cases hh : n ≤ a
        · rw [show min n a = n by omega]; simp
        · rw [show min n a = a by omega]; simp
      · exact List.mem_cons_of_mem _ (List.mem_cons_of_mem _ e)
    · have h3 := h2 (min n a) List.mem_cons_self
      rcases List.mem_cons.mp hy with rfl | hy
      · omega
      · rcases List.mem_cons.mp hy with rfl | hy
        · omega
        · exact h2 y (List.mem_cons_of_mem _ hy)
theorem dp_ints : ∀ ns : List Int, DpAll K H (ns.map V.int) (ns.map PyData.int)
  | [] => .nil
  | i :: r => .cons (.int i) (dp_ints r)
theorem reads_ints {pins : List (Addr × Obj)} {σ : Sg} {s : Shared} (I : Inv X pins σ H s) {ns : List Int} {its : List Value} (rv : Vals (ns.map V.int) its) : ∃ as, ReadsAll s.heap its (ns.map PyData.int) as :=
  Dp.readsAll I _ _ _ (dp_ints (K := X.K) ns) rv
theorem alike_ints' (ns : List Int) : PySem.W.AlikeAll (ns.map PyData.int) := by
  refine ⟨fun x hx y hy => ?_, fun x hx => ?_⟩
  · obtain ⟨i, _, rfl⟩ := List.mem_map.mp hx
    obtain ⟨j, _, rfl⟩ := List.mem_map.mp hy
    rfl
  · obtain ⟨i, _, rfl⟩ := List.mem_map.mp hx
    exact fun e => by cases e
theorem cr_maxT (hc : X.calm = true) (hu : X.A.units + 64 < cLine) : CallR X (.builtin "max") (rMaxT X.K) := by
  intro pins s σ H vs us Q I r h
  obtain ⟨a, ns, rfl, hs, hne, q⟩ := h
  obtain ⟨its, rv, hl, _⟩ := I.tuple hs
  rw [Vals.ref1 r]
  match ns, hne, rv, q with
  | n :: ns, _, rv, q =>
    obtain ⟨as, ra⟩ := reads_ints I rv
    refine PySem.W.max_tuple_data (I.ok.hd hc) hl ra (alike_ints' (n :: ns)) (by rw [show PyData.depthAll (PyData.int n :: ns.map PyData.int) = 0 from PySem.W.depth_ints (n :: ns)]; omega) fun i v h' tk bs hv rd hk => ?_
    rw [PySem.W.maxD_ints] at rd
    obtain ⟨h1, h2⟩ := fold_max ns n
    cases rd
    exact ⟨.int _, H, I.kept hk, ⟨_, rfl⟩, q _ h1 h2⟩
theorem cr_minT (hc : X.calm = true) (hu : X.A.units + 64 < cLine) : CallR X (.builtin "min") (rMinT X.K) := by
  intro pins s σ H vs us Q I r h
  obtain ⟨a, ns, rfl, hs, hne, q⟩ := h
  obtain ⟨its, rv, hl, _⟩ := I.tuple hs
  rw [Vals.ref1 r]
  match ns, hne, rv, q with
  | n :: ns, _, rv, q =>
    obtain ⟨as, ra⟩ := reads_ints I rv
    refine PySem.W.min_tuple_data (I.ok.hd hc) hl ra (alike_ints' (n :: ns)) (by rw [show PyData.depthAll (PyData.int n :: ns.map PyData.int) = 0 from PySem.W.depth_ints (n :: ns)]; omega) fun i v h' tk bs hv rd hk => ?_
    rw [PySem.W.minD_ints] at rd
    obtain ⟨h1, h2⟩ := fold_min ns n
    cases rd
    exact ⟨.int _, H, I.kept hk, ⟨_, rfl⟩, q _ h1 h2⟩
theorem v_maxT (rx : Rp K H O x dx) (h : b1S .maxT dx k) (q : ∀ fr d v H', k fr d → Res K H O fr d v H' → Q v H') : rMaxT K [x] H Q := by
  cases dx with
  | tuple xs =>
    obtain ⟨bs, e, h0, hk⟩ := h
    obtain ⟨p, vs, rfl, e1, z, f⟩ := rx.tup
    have := f.ints e
    subst this
    exact ⟨p, bs, rfl, e1, h0, fun m h1 h2 => q _ _ _ _ (hk m h1 h2) (.old (.int _))⟩
  | _ => exact h.elim
theorem v_minT (rx : Rp K H O x dx) (h : b1S .minT dx k) (q : ∀ fr d v H', k fr d → Res K H O fr d v H' → Q v H') : rMinT K [x] H Q := by
  cases dx with
  | tuple xs =>
    obtain ⟨bs, e, h0, hk⟩ := h
    obtain ⟨p, vs, rfl, e1, z, f⟩ := rx.tup
    have := f.ints e
    subst this
    exact ⟨p, bs, rfl, e1, h0, fun m h1 h2 => q _ _ _ _ (hk m h1 h2) (.old (.int _))⟩
  | _ => exact h.elim
end
end Ev
/-! EvStm: statements, calls, bodies of defs. -/
namespace Ev
open PySem PySem.Spec PyProof.Rows L2

abbrev Ws := Ev → En → Prop
/-- how a result lies behind a def -/
structure RtOk (C : Cc) (H' : Hp) (fr : Bool) (d : D) (v : V) : Prop where
  keep : ∀ a o, C.Hb a = some o → ¬ C.S a → H' a = some o
  src : ∀ p c, C.so = some (p, c) → SrcOk H' p c
  old : fr = false → Fz C.K H' C.O0 v d
  new : fr = true → ∃ a, v = .ref a ∧ C.Hb a = none ∧ ¬ C.O0 a ∧ Cell C.K H' (fun b => C.O0 b ∨ b = a) a d
def tS (C : Cc) (W : Ws) : TS := fun D σ H => ∃ (pn : List (Addr × HO)) (env : Ev) (O : Addr → Prop) (E : En), Ok8 C C.so pn σ H env O ∧ W env E ∧
  (∀ env' σ' H' O', E.nx env' → Ok8 C C.so pn σ' H' env' O' → Step H O H' O' → D.nx σ' H') ∧
  (∀ env' σ' H' O', E.bk env' → Ok8 C C.so pn σ' H' env' O' → Step H O H' O' → D.bk σ' H') ∧
  ∀ fr d v H', E.rt fr d → RtOk C H' fr d v → D.rt v H'

section
variable {X : Cx} {C : Cc} {e : Expr} {es : List Expr} {pos : Pos} {st : Stmt} {rest : List Stmt} {wa wb : Ws} {we : Wx}
theorem _root_.L2.PS.weak {t t' : TS} (h : PS X st t) (hw : ∀ D σ H, t' D σ H → t D σ H) : PS X st t' := ⟨fun pins s σ H D I q => h.run pins s σ H D I (hw D σ H q)⟩
theorem _root_.L2.PSs.weak {t t' : TS} (h : PSs X rest t) (hw : ∀ D σ H, t' D σ H → t D σ H) : PSs X rest t' := ⟨fun pins s σ H D I q => h.run pins s σ H D I (hw D σ H q)⟩

theorem so_skip (F : Fns) : PSs X [] (tS C (wS F .skip)) := pss_nil.weak fun D σ H ⟨pn, env, O, E, K, W, q, _, _⟩ => q _ _ _ _ W K .refl
theorem so_seq (ha : PS X st (tS C wa)) (hb : PSs X rest (tS C wb)) : PSs X (st :: rest) (tS C fun env E => wa env { E with nx := fun e => wb e E }) := by
  refine (pss_cons ha hb).weak fun D σ H ⟨pn, env, O, E, K, W, q, b, r⟩ => ?_
  refine ⟨pn, env, O, _, K, W, fun e1 σ1 H1 O1 w1 k1 s1 => ?_, b, r⟩
  exact ⟨pn, e1, O1, E, k1, w1, fun e2 σ2 H2 O2 w2 k2 s2 => q _ _ _ _ w2 k2 (s1.trans s2), fun e2 σ2 H2 O2 w2 k2 s2 => b _ _ _ _ w2 k2 (s1.trans s2), r⟩
theorem so_if {c : Expr} {wc : Wx} {sa sb : List Stmt} (hc : PT X c (tT C wc)) (ha : PSs X sa (tS C wa)) (hb : PSs X sb (tS C wb)) : PS X (.If c sa sb pos) (tS C fun env E => wc env fun v e1 => truth v fun c => if c = true then wa e1 E else wb e1 E) := by
  refine (ps_if hc ha hb).weak fun D σ H ⟨pn, env, O, E, K, W, q, b, r⟩ => ?_
  refine ⟨pn, env, O, _, K, W, fun c e1 H1 O1 w1 k1 s1 => ?_⟩
  cases c with
  | true =>
    refine iteT ?_
    simp only [if_true] at w1
    exact ⟨pn, e1, O1, E, k1, w1, fun e2 σ2 H2 O2 w2 k2 s2 => q _ _ _ _ w2 k2 (s1.trans s2), fun e2 σ2 H2 O2 w2 k2 s2 => b _ _ _ _ w2 k2 (s1.trans s2), r⟩
  | false =>
    refine iteF ?_
    simp only [Bool.false_eq_true, if_false] at w1
    exact ⟨pn, e1, O1, E, k1, w1, fun e2 σ2 H2 O2 w2 k2 s2 => q _ _ _ _ w2 k2 (s1.trans s2), fun e2 σ2 H2 O2 w2 k2 s2 => b _ _ _ _ w2 k2 (s1.trans s2), r⟩
/-- the frame's slot takes the value -/
theorem set_ok {i : Nat} {vl : Vl} {v : V} {pn : List (Addr × HO)} {σ : Sg} {H : Hp} {env : Ev} {O : Addr → Prop} {n : Ev → Prop} (k : Ok8 C C.so pn σ H env O) (vo : VlOk C C.so pn H O σ env vl v) (h : setV i vl env n) :
    ∃ env' O', n env' ∧ Ok8 C C.so pn (σ.set i (some v)) H env' O' ∧ Step H O H O' := by
  obtain ⟨hi, h⟩ := h
  cases vl with
  | fz d => exact ⟨_, O, h, k.store ⟨v, rfl, vo⟩ hi (fun z => by cases z), .refl⟩
  | fr d =>
    obtain ⟨a, rfl, oa, na, c, no, ns, np⟩ := vo
    exact ⟨_, O, h, k.store ⟨a, rfl, oa, na, c⟩ hi (fun _ b e => by cases e; exact ⟨no, ns, np⟩), .refl⟩
  | bw j =>
    obtain ⟨d, e2, O2, w2, k2, s2, f2⟩ := vo.give k h
    have hi2 : i < e2.length := by rw [k2.len, ← k.len]; exact hi
    exact ⟨_, O2, w2, k2.store ⟨v, rfl, f2⟩ hi2 (fun z => by cases z), s2⟩
  | sr => exact h.elim
theorem so_set {i : Nat} {x : Str} {p' : Pos} (hN : X.N.Nodup) (hi : X.N[i]? = some x) (hx : Loc X.env.scope x) (hf : X.fn x = true ∨ X.env.scope.names.lookup x = some .local) (he : PE X e (tE C we)) (hs : swapsWith e (some (.Name x p')) pos.line X.env = pure false) :
    PS X (.Assign [.Name x p'] e pos) (tS C fun env E => we env fun v e1 => setV i v e1 E.nx) := by
  refine (ps_set hN hi hx he hs hf).weak fun D σ H ⟨pn, env, O, E, K, W, q, b, r⟩ => ?_
  refine ⟨pn, env, O, _, K, W, fun vl e1 v H1 O1 w1 k1 v1 s1 => ?_⟩
  obtain ⟨e2, O2, w2, k2, s2⟩ := set_ok k1 v1 w1
  exact q _ _ _ _ w2 k2 (s1.trans s2)
theorem so_setLc {i : Nat} {y : Str} {py spos : Pos} {elt tgE iter : Expr} {ifs : List Expr} {scope : Scope} {own : List (Str × Nat)} {ik : Ik} {tg : Tg} {wi wt wl : Wx} (hK : X.K = C.K) (hc : X.calm = true) (hN : X.N.Nodup) (hy : X.N[i]? = some y) (hyl : X.env.scope.names.lookup y = some .local)
    (hsw : swapsWith (.ListComp elt [⟨tgE, iter, ifs, 0⟩] scope pos) (some (.Name y py)) spos.line X.env = pure true) (hi : PI X tgE iter (tI C ik wi)) (ok : BlkOk X.N X.env.scope scope own)
    (hg : ∀ (s : Shared) (H : Hp) (D : Addr) (cl : List (Str × Addr)) (fp : List Addr), PG (X.blk s H scope (compEnvC scope cl D X.env) fp) tgE (tG C tg))
    (ht : ∀ (s : Shared) (H : Hp) (D : Addr) (cl : List (Str × Addr)) (fp : List Addr), PTs (X.blk s H scope (compEnvC scope cl D X.env) fp) ifs (tT C wt))
    (he : ∀ (s : Shared) (H : Hp) (D : Addr) (cl : List (Str × Addr)) (fp : List Addr), PE (X.blk s H scope (compEnvC scope cl D X.env) fp) elt (tE C wl)) (hs : ∀ x, foldedSetIterable iter X.env x = pure x) (hsub : ∀ j ∈ tgS tg, j ∈ own.map (·.2)) (hraw : rawI ik = true → isTt tg = true) :
    PS X (.Assign [.Name y py] (.ListComp elt [⟨tgE, iter, ifs, 0⟩] scope pos) spos) (tS C fun env E => (fun env k => wi env fun vi e1 => vi.give e1 fun d e2 => walks ik d fun ds => compL (compJ (own.map (·.2)) tg wt wl) ds e2 [] fun ys e9 => k (.fr (.list ys)) (backE e2 e9 (own.map (·.2)))) env fun v e1 => setV i v e1 E.nx) := by
  refine (ps_setLc hc hN hy hyl hsw hi ok hg ht he hs).weak fun D σ H ⟨pn, env, O, E, K, W, q, b, r⟩ => ?_
  refine so_comp hK hc hN hi ok hg ht he hsub hraw σ H _ ⟨pn, env, O, fun v e1 => setV i v e1 E.nx, K, W, fun vl e1 v H1 O1 w1 k1 v1 s1 => ?_⟩
  obtain ⟨e2, O2, w2, k2, s2⟩ := set_ok k1 v1 w1
  exact q _ _ _ _ w2 k2 (s1.trans s2)
theorem so_unp {tgE : Expr} {tg : Tg} (he : PE X e (tE C we)) (hg : PG X tgE (tG C tg)) (hs : swapsWithSole [tgE] e pos.line X.env = pure false) (hw : swappedStores [tgE] e X.env = pure none) (h1 : (assignEach [tgE] X.env).map (·.2) = [assign tgE X.env]) :
    PS X (.Assign [tgE] e pos) (tS C fun env E => we env fun v e1 => v.give e1 fun d e2 => bindT tg d e2 E.nx) := by
  refine (ps_asg he hg hs hw h1).weak fun D σ H ⟨pn, env, O, E, K, W, q, b, r⟩ => ?_
  refine ⟨pn, env, O, _, K, W, fun vl e1 v H1 O1 w1 k1 v1 s1 => ?_⟩
  obtain ⟨d, e2, O2, w2, k2, s2, f2⟩ := v1.give k1 w1
  exact ⟨pn, e2, O2, d, _, k2, .of f2, w2, fun e3 σ3 H3 O3 w3 k3 s3 _ _ => q _ _ _ _ w3 k3 (s1.trans (s2.trans s3))⟩
theorem so_ret (he : PE X e (tE C we)) : PS X (.Return (some e) pos) (tS C fun env E => we env fun v e1 => (match v with
    | .fz d => E.rt false d
    | .fr d => E.rt true d
    | .bw i => (match e1.getD i .no with | .ow d => E.rt true d | .fz d => E.rt false d | _ => False)
    | .sr => False)) := by
  refine (ps_ret he).weak fun D σ H ⟨pn, env, O, E, K, W, q, b, r⟩ => ?_
  refine ⟨pn, env, O, _, K, W, fun vl e1 v H1 O1 w1 k1 v1 s1 => ?_⟩
  have base : ∀ {O' : Addr → Prop}, Ok8 C C.so pn σ H1 e1 O' → ∀ {d}, Fz C.K H1 O' v d → RtOk C H1 false d v := fun {O'} k' {d} f =>
    ⟨k'.fr, fun p c e => (k'.src p c e).1, fun _ => f.step (Step.less k'.sub), fun z => by cases z⟩
  have own : ∀ {a d}, v = .ref a → O1 a → C.Hb a = none → Cell C.K H1 O1 a d → RtOk C H1 true d v := fun {a d} ev oa na c =>
    ⟨k1.fr, fun p c e => (k1.src p c e).1, fun z => (by cases z), fun _ => ⟨a, ev, na, k1.notO0 na, c.step (Step.less fun b z => by
      rcases z with z | rfl
      · exact k1.sub _ z
      · exact oa) rfl⟩⟩
  cases vl with
  | fz d => exact r _ _ _ _ w1 (base k1 v1)
  | fr d =>
    obtain ⟨a, ev, oa, na, c, _⟩ := v1
    exact r _ _ _ _ w1 (own ev oa na c)
  | bw i =>
    have v1 : σ[i]? = some (some v) := v1
    have sl := k1.slot i
    simp only at w1
    cases hs : e1.getD i .no with
    | ow d =>
      simp only [hs] at w1 sl
      obtain ⟨a, e, oa, na, c⟩ := sl
      rw [v1] at e; cases e
      exact r _ _ _ _ w1 (own rfl oa na c)
    | fz d =>
      simp only [hs] at w1 sl
      obtain ⟨x, e, f⟩ := sl
      rw [v1] at e; cases e
      exact r _ _ _ _ w1 (base k1 f)
    | no => simp only [hs] at w1
    | src => simp only [hs] at w1
  | sr => exact w1.elim
theorem so_brk (F : Fns) : PS X (.Break pos) (tS C (wS F .brk)) := ps_break.weak fun D σ H ⟨pn, env, O, E, K, W, _, b, _⟩ => b _ _ _ _ W K .refl
theorem so_nev (F : Fns) : PS X st (tS C (wS F .nev)) := ps_never.weak fun D σ H ⟨pn, env, O, E, K, W, _⟩ => W.elim
theorem so_for {tgE iter : Expr} {body : List Stmt} {ik : Ik} {tg : Tg} {wi : Wx} (hx : X.xe = fun _ _ => False) (hc : X.calm = true) (hi : PI X tgE iter (tI C ik wi)) (hg : PG X tgE (tG C tg)) (hb : PSs X body (tS C wb)) (hs : ∀ x, foldedSetIterable iter X.env x = pure x) (hraw : rawI ik = true → isTt tg = true) :
    PS X (.For tgE iter body [] pos) (tS C fun env E => wi env fun vi e1 => vi.give e1 fun d e2 => walks ik d fun ds => forL (fun x e0 E0 => bindT tg x e0 fun ea => wb ea E0) ds e2 E) := by
  refine (ps_for (by rw [hx]; exact PassesOwn.never) hc hi hg hb hs).weak fun D σ H ⟨pn, env, O, E, K, W, q, b, r⟩ => ?_
  refine ⟨pn, env, O, _, K, W, fun ds e2 J H1 O1 w1 k1 wk s1 => ?_⟩
  refine ⟨fun i m σ' H' => m = ds.length - i ∧ i ≤ ds.length ∧ ∃ e0 O', Ok8 C C.so pn σ' H' e0 O' ∧ forL (fun x e0 E0 => bindT tg x e0 fun ea => wb ea E0) (ds.drop i) e0 E ∧ Step H1 O1 H' O',
    ⟨ds.length, by simp, Nat.zero_le _, e2, O1, k1, by rw [List.drop_zero]; exact w1, .refl⟩, ?_⟩
  rintro i m σ' H' ⟨rfl, hi, e0, O', k2, w2, s2⟩
  by_cases hlt : i < ds.length
  · refine .inr ⟨wk.go H' O' i s2 hlt, fun σ'' H'' => ∃ e0 O', Ok8 C C.so pn σ'' H'' e0 O' ∧ forL (fun x e0 E0 => bindT tg x e0 fun ea => wb ea E0) (ds.drop (i + 1)) e0 E ∧ Step H1 O1 H'' O',
      fun σ'' H'' h => ⟨ds.length - (i + 1), by omega, rfl, hlt, h⟩, fun x H2 y => ?_⟩
    obtain ⟨d, hd, hy⟩ := wk.yld H' O' i x H2 s2 y hlt
    have hdr : ds.drop i = d :: ds.drop (i + 1) := by
      have := (List.getElem?_eq_some_iff.mp hd).2
      rw [← this, List.drop_eq_getElem_cons hlt]
    rw [hdr] at w2
    have main : Ok8 C C.so pn σ' H2 e0 O' ∧ FzT tg C.K H2 O' x d ∧ Step H' O' H2 O' := by
      rcases hy with ⟨rfl, fx⟩ | ⟨hr, p, ws, es, n, rfl, rfl, rfl, z, g⟩
      · exact ⟨k2, .of fx, .refl⟩
      · refine ⟨k2.alloc n, ?_, step_alloc n⟩
        have ht := hraw hr
        cases tg <;> first | (cases ht; done) | exact .inr ⟨p, ws, es, rfl, rfl, .inl (.inl upd_same), FzL.step (step_alloc n) g⟩
    obtain ⟨k3, fx, s3⟩ := main
    refine ⟨pn, e0, O', d, _, k3, fx, w2, fun ea σa Ha Oa wa ka sa _ _ => ?_⟩
    exact ⟨pn, ea, Oa, _, ka, wa, fun e4 σ4 H4 O4 w4 k4 s4 => ⟨e4, O4, k4, w4, s2.trans (s3.trans (sa.trans s4))⟩,
      fun e4 σ4 H4 O4 w4 k4 s4 => q _ _ _ _ w4 k4 (s1.trans (s2.trans (s3.trans (sa.trans s4)))), r⟩
  · have e : i = ds.length := by omega
    subst e
    rw [List.drop_length] at w2
    exact .inl ⟨wk.stop H' O' _ s2 (Nat.le_refl _), q _ _ _ _ w2 k2 (s1.trans s2)⟩
theorem so_while {c : Expr} {body : List Stmt} {wc : Wx} (hx : X.xe = fun _ _ => False) (hc : PT X c (tT C wc)) (hb : PSs X body (tS C wb)) :
    PS X (.While c body [] pos) (tS C fun env E => ∃ n, whileL (fun e k => wc e fun v e1 => truth v fun c => k c e1) (fun e E0 => wb e E0) n env E) := by
  refine (ps_while (by rw [hx]; exact PassesOwn.never) hc hb).weak fun D σ H ⟨pn, env, O, E, K, ⟨n, W⟩, q, b, r⟩ => ?_
  refine ⟨fun m σ' H' => ∃ e0 O', Ok8 C C.so pn σ' H' e0 O' ∧ whileL (fun e k => wc e fun v e1 => truth v fun c => k c e1) (fun e E0 => wb e E0) m e0 E ∧ Step H O H' O', ⟨n, env, O, K, W, .refl⟩, ?_⟩
  rintro m σ' H' ⟨e0, O', k2, w2, s2⟩
  cases m with
  | zero => exact w2.elim
  | succ m =>
    refine ⟨pn, e0, O', _, k2, w2, fun c e1 H1 O1 w1 k1 s1 => ?_⟩
    cases c with
    | true =>
      refine iteT ?_
      simp only [if_true] at w1
      refine ⟨fun σ'' H'' => ∃ e0 O', Ok8 C C.so pn σ'' H'' e0 O' ∧ whileL (fun e k => wc e fun v e1 => truth v fun c => k c e1) (fun e E0 => wb e E0) m e0 E ∧ Step H O H'' O', fun σ'' H'' h => ⟨m, Nat.lt_succ_self _, h⟩, ?_⟩
      exact ⟨pn, e1, O1, _, k1, w1, fun e4 σ4 H4 O4 w4 k4 s4 => ⟨e4, O4, k4, w4, s2.trans (s1.trans s4)⟩, fun e4 σ4 H4 O4 w4 k4 s4 => q _ _ _ _ w4 k4 (s2.trans (s1.trans s4)), r⟩
    | false =>
      refine iteF ?_
      simp only [Bool.false_eq_true, if_false] at w1
      exact q _ _ _ _ w1 k1 (s2.trans s1)
/-! ### one's own lists change -/
variable {i : Nat} {x : Str} {p2 apos cpos : Pos}
theorem so_app (hN : X.N[i]? = some x) (hv : Vis X.env.scope x) (hd : (x == ("__debug__" : Str)) = false) (hc : (x == ("__classdict__" : Str)) = false) (hl : (apos.endLine == cpos.line) = true) (hp : plainE e = true) (he : PE X e (tE C we)) :
    PS X (.Expr (.Call (.Attribute (.Name x p2) "append" apos) [e] [] cpos) pos) (tS C fun env E => (∃ ys, env.getD i .no = .ow (.list ys)) ∧ we env fun v e1 => v.give e1 fun y e2 => (match e2.getD i .no with
    | .ow (.list xs) => xs.length < 16777216 ∧ E.nx (e2.set i (.ow (.list (xs ++ [y]))))
    | _ => False)) := by
  have hs : starEach [e] X.env = [(false, eval e X.env)] := star_plain hp
  refine (ps_expr (pe_bm PySem.F.plainAttrs_list PySem.F.slot_list_append PySem.F.type_list_append mt_append (pe_var hN hv hd hc) (pa_cons he pa_nil hs) rfl (by rw [hs]; rfl) hl hs rfl) rfl).weak fun D σ H ⟨pn, env, O, E, K, ⟨⟨ys, ey⟩, W⟩, q, b, r⟩ => ?_
  obtain ⟨p, own, op, us, ep0, _⟩ := own_of K ey
  refine ⟨_, own.2, .inl ⟨rfl, us, SqL.of ep0⟩, pn, env, O, _, K, W, fun va e1 y H1 O1 w1 k1 v1 s1 => ?_⟩
  obtain ⟨d, e2, O2, w2, k2, s2, f2⟩ := v1.give k1 w1
  cases hs2 : e2.getD i .no with
  | ow d' =>
    simp only [hs2] at w2
    cases d' with
    | list xs =>
      obtain ⟨hz, w3⟩ := w2
      obtain ⟨p', own', op', vs, ep, z, f⟩ := own_of k2 hs2
      have : p' = p := by have := own'.2.symm.trans own.2; cases this; rfl
      subst this
      have hz' : vs.length < sizeLine := by rw [sizeLine_eq, f.length]; exact hz
      refine ⟨p', vs, y, rfl, rfl, ep, hz', ?_⟩
      exact q _ _ _ _ w3 (k2.write own' (list_upd op' (by rw [List.length_append]; exact hz') (f.append (.one f2)))) (s1.trans (s2.trans (step_write op')))
    | _ => exact w2.elim
  | _ => simp only [hs2] at w2
theorem so_ext (hK : X.K = C.K) (hN : X.N[i]? = some x) (hv : Vis X.env.scope x) (hd : (x == ("__debug__" : Str)) = false) (hc : (x == ("__classdict__" : Str)) = false) (hl : (apos.endLine == cpos.line) = true) (hp : plainE e = true) (he : PE X e (tE C we)) :
    PS X (.Expr (.Call (.Attribute (.Name x p2) "extend" apos) [e] [] cpos) pos) (tS C fun env E => (∃ ys, env.getD i .no = .ow (.list ys)) ∧ we env fun v e1 => v.give e1 fun y e2 => (match e2.getD i .no, y with
    | .ow (.list xs), .list ys => Fits (xs.length + ys.length) ∧ E.nx (e2.set i (.ow (.list (xs ++ ys))))
    | .ow (.list xs), .tuple ys => Fits (xs.length + ys.length) ∧ E.nx (e2.set i (.ow (.list (xs ++ ys))))
    | _, _ => False)) := by
  have hs : starEach [e] X.env = [(false, eval e X.env)] := star_plain hp
  refine (ps_expr (pe_bm PySem.F.plainAttrs_list PySem.F.slot_list_extend PySem.F.type_list_extend mt_extF (pe_var hN hv hd hc) (pa_cons he pa_nil hs) rfl (by rw [hs]; rfl) hl hs rfl) rfl).weak fun D σ H ⟨pn, env, O, E, K, ⟨⟨ys, ey⟩, W⟩, q, b, r⟩ => ?_
  obtain ⟨p, own, op, us, ep0, _⟩ := own_of K ey
  refine ⟨_, own.2, .inl ⟨rfl, us, SqL.of ep0⟩, pn, env, O, _, K, W, fun va e1 y H1 O1 w1 k1 v1 s1 => ?_⟩
  obtain ⟨d, e2, O2, w2, k2, s2, f2⟩ := v1.give k1 w1
  cases hs2 : e2.getD i .no with
  | ow d' =>
    simp only [hs2] at w2
    cases d' with
    | list xs =>
      cases d with
      | list zs =>
        obtain ⟨hz, w3⟩ := w2
        obtain ⟨p', own', op', vs, ep, z, f⟩ := own_of k2 hs2
        have : p' = p := by have := own'.2.symm.trans own.2; cases this; rfl
        subst this
        obtain ⟨b', ws, rfl, eb, _, fb⟩ := Rp.list (.inl f2)
        have hz' : vs.length + ws.length ≤ sizeLine := by rw [sizeLine_eq, f.length, fb.length]; exact hz
        refine ⟨p', b', vs, ws, rfl, rfl, ep, .inl eb, hz', ?_⟩
        exact q _ _ _ _ w3 (k2.write own' (list_upd op' (by rw [List.length_append]; exact hz') (f.append fb))) (s1.trans (s2.trans (step_write op')))
      | tuple zs =>
        obtain ⟨hz, w3⟩ := w2
        obtain ⟨p', own', op', vs, ep, z, f⟩ := own_of k2 hs2
        have : p' = p := by have := own'.2.symm.trans own.2; cases this; rfl
        subst this
        obtain ⟨b', ws, rfl, ty, sq, _, fb⟩ := Rp.tupT (.inl f2)
        have hz' : vs.length + ws.length ≤ sizeLine := by rw [sizeLine_eq, f.length, fb.length]; exact hz
        refine ⟨p', b', vs, ws, rfl, rfl, ep, .inr ⟨by rw [hK]; exact ty, by rw [hK]; exact sq⟩, hz', ?_⟩
        exact q _ _ _ _ w3 (k2.write own' (list_upd op' (by rw [List.length_append]; exact hz') (f.append fb))) (s1.trans (s2.trans (step_write op')))
      | _ => exact w2.elim
    | _ => exact w2.elim
  | _ => simp only [hs2] at w2
theorem so_popS (hN : X.N[i]? = some x) (hv : Vis X.env.scope x) (hd : (x == ("__debug__" : Str)) = false) (hc : (x == ("__classdict__" : Str)) = false) (hl : (apos.endLine == cpos.line) = true) (F : Fns) :
    PS X (.Expr (.Call (.Attribute (.Name x p2) "pop" apos) [] [] cpos) pos) (tS C (wS F (.popS i))) := by
  refine (ps_expr (so_pop0 (C := C) hN hv hd hc F hl) rfl).weak fun D σ H ⟨pn, env, O, E, K, W, q, b, r⟩ => ?_
  simp only [wS] at W
  cases hs : env.getD i .no with
  | ow d =>
    simp only [hs] at W
    cases d with
    | list xs =>
      obtain ⟨hne, W⟩ := W
      refine ⟨pn, env, O, fun _ e => E.nx e, K, ?_, fun vl e1 v H1 O1 w1 k1 v1 s1 => q _ _ _ _ w1 k1 s1⟩
      simp only [w, hs]
      exact ⟨_, List.getLast?_eq_some_getLast hne, W⟩
    | _ => exact W.elim
  | _ => simp only [hs] at W
theorem so_sto {a : Expr} {wi : Wx} {spos : Pos} (hN : X.N[i]? = some x) (hv : Vis X.env.scope x) (hd : (x == ("__debug__" : Str)) = false) (hc : (x == ("__classdict__" : Str)) = false) (he : PE X e (tE C we)) (ha : PE X a (tE C wi))
    (hsub : ∀ v, assign (.Subscript (.Name x p2) a spos) X.env v = (do
      let ov ← holding [v] (eval (.Name x p2) X.env)
      let iv ← holding [v, ov] (eval a X.env)
      standAt spos
      holding [v, ov, iv] (setItem ov iv v)
      release [v, ov, iv] [])) (hs : swapsWithSole [.Subscript (.Name x p2) a spos] e pos.line X.env = pure false) :
    PS X (.Assign [.Subscript (.Name x p2) a spos] e pos) (tS C fun env E => we env fun v e1 => v.give e1 fun y e2 => (∃ ys, e2.getD i .no = .ow (.list ys)) ∧ wi e2 fun va e3 => ∃ j : Int, va = .fz (.int j) ∧ (match e3.getD i .no with
    | .ow (.list xs) => ∃ m, ixN xs.length j = some m ∧ E.nx (e3.set i (.ow (.list (xs.set m y))))
    | _ => False)) := by
  refine (ps_asg he (pg_sub (pe_var hN hv hd hc) ha set_list hsub) hs rfl rfl).weak fun D σ H ⟨pn, env, O, E, K, W, q, b, r⟩ => ?_
  refine ⟨pn, env, O, _, K, W, fun vl e1 v H1 O1 w1 k1 v1 s1 => ?_⟩
  obtain ⟨d, e2, O2, ⟨⟨ys, ey⟩, w2⟩, k2, s2, f2⟩ := v1.give k1 w1
  obtain ⟨p, own, op, us, ep0, _⟩ := own_of k2 ey
  refine ⟨_, own.2, pn, e2, O2, _, k2, w2, fun va e3 y H3 O3 ⟨j, ej, w3⟩ k3 v3 s3 => ?_⟩
  subst ej
  cases (show Fz C.K H3 O3 y (.int j) from v3)
  cases hs3 : e3.getD i .no with
  | ow d' =>
    simp only [hs3] at w3
    cases d' with
    | list xs =>
      obtain ⟨m, hm, w4⟩ := w3
      obtain ⟨p', own', op', vs, ep, z, f⟩ := own_of k3 hs3
      have : p' = p := by have := own'.2.symm.trans own.2; cases this; rfl
      subst this
      refine ⟨p', vs, j, m, rfl, rfl, ep, by rw [f.length]; exact hm, ?_⟩
      exact q _ _ _ _ w4 (k3.write own' (list_upd op' (by rw [List.length_set]; exact z) (f.set m (f2.step s3)))) (s1.trans (s2.trans (s3.trans (step_write op'))))
    | _ => exact w3.elim
  | _ => simp only [hs3] at w3

/-! ### defs -/
/-- a def's promise, its arguments as data; src: is the first one the source? n: how many arguments -/
def spD (K : PySem.W.Frag) (n : Nat) (src : Bool) (F : Fn) : Sp := fun vs H Q _ => vs.length = n ∧ ∃ (C : Cc) (ds : List D) (ws : List V) (kk : Bool → D → Prop), C.K = K ∧ C.Hb = H ∧ (∀ a, C.O0 a → ∃ o, H a = some o) ∧
  (∀ a, C.S a → C.O0 a) ∧ (∀ p c, C.so = some (p, c) → SrcOk H p c) ∧ (if src = true then ∃ p c, C.so = some (p, c) ∧ vs = .ref p :: ws else C.so = none ∧ vs = ws) ∧ FzL K H C.O0 ws ds ∧ F ds kk ∧ ∀ fr d v H', kk fr d → RtOk C H' fr d v → Q v H'
/-- a def that keeps its promise wherever nothing is being written as text -/
structure FnG (P : Program) (w : World) (K : PySem.W.Frag) (mg : Str → Option Value) (base : Heap) (k : Nat) (f : Addr) (fd : FuncData) (ps : List Str) (sp : Sp) : Prop where
  len : ∀ vs H Q E, sp vs H Q E → vs.length = ps.length
  run : ∀ (A : Around) (outer : List Env) (s : Shared) (H : Hp) (args : Args) (us : List Value) (vs : List V) (Q : VK) (E : XK), Room k A → A.guards = some [] → Env0 P w K mg base A outer s H → BindsTo s fd args (ps.zip us) → Vals vs us → sp vs H Q E →
    codeAny (model P w) A (.call (.ref f) args) (CR CX0 outer P w H s Q E) s
/-- what the text's def is for a caller -/
structure Cal (X : Cx) (k : Nat) (x : Str) (n : Nat) (src : Bool) (F : Fn) : Prop where
  ex : ∃ (f : Addr) (fd : FuncData) (ps : List Str), X.mg x = some (.ref f) ∧ PySem.W.keepIn X.K (.ref f) = true ∧ Binds X.K fd ps [] ∧ FnG X.prog X.w X.K X.mg X.base k f fd ps (spD X.K n src F)
  dbg : (x == ("__debug__" : Str)) = false
  ar : ∀ ds k, F ds k → ds.length + (if src = true then 1 else 0) = n
theorem run_g {k : Nat} {f : Addr} {fd : FuncData} {ps : List Str} {sp : Sp} {pins : List (Addr × Obj)} {σ : L2.St} {H : Hp} {s : Shared} {Q : VK} {us : List Value} {vs : List V} (F : FnG X.prog X.w X.K X.mg X.base k f fd ps sp) (hr : Room k X.A) (hg : X.A.guards = some []) (hb : Binds X.K fd ps [])
    (I : Inv X pins σ H s) (r : Vals vs us) (h : sp vs H Q E0) : wpAny (model X.prog X.w) X.A (call (.ref f) us) (EP X pins σ Q) X.xe s := by
  have hl : (us ++ []).length = ps.length := by rw [List.append_nil, ← r.length]; exact F.len _ _ _ _ h
  have hb' := hb s us I.kIn hl
  rw [List.append_nil] at hb'
  refine wpAny_call (codeAny_mono (F.run X.A X.stack s H ⟨us, []⟩ us vs Q E0 hr hg I.env0 hb' r h) fun q s' hq => ?_)
  match q, hq with
  | .ok (.ret u), hq => exact I.after hq
  | .ok .next, hq => exact False.elim hq
  | .ok .brk, hq => exact False.elim hq
  | .ok .cont, hq => exact False.elim hq
  | .error _, hq => exact False.elim hq
/-- behind a call -/
theorem after_call {so : Option (Addr × Addr)} {C' : Cc} {pn : List (Addr × HO)} {σ : Sg} {H H' : Hp} {env : Ev} {O : Addr → Prop} {fr : Bool} {d : D} {v : V} (k : Ok8 C so pn σ H env O) (h1 : C'.K = C.K) (h2 : C'.Hb = H) (h3 : C'.O0 = O) (h4 : C'.so = none ∨ C'.so = so) (r : RtOk C' H' fr d v) :
    ∃ O', Ok8 C so pn σ H' env O' ∧ VlOk C so pn H' O' σ env (rets fr d) v ∧ Step H O H' O' := by
  have notS : ∀ {a : Addr}, (∀ p c, so = some (p, c) → a ≠ p ∧ a ≠ c) → ¬ C'.S a := fun {a} h ⟨p, c, e, z⟩ => by
    rcases h4 with h4 | h4
    · rw [h4] at e; cases e
    · rw [h4] at e
      obtain ⟨q1, q2⟩ := h p c e
      rcases z with z | z
      · exact q1 z
      · exact q2 z
  have kp : ∀ {a o}, H a = some o → (∀ p c, so = some (p, c) → a ≠ p ∧ a ≠ c) → H' a = some o := fun {a o} e h => r.keep a o (by rw [h2]; exact e) (notS h)
  have outO : ∀ {a}, ¬ O a → ∀ p c, so = some (p, c) → a ≠ p ∧ a ≠ c := fun {a} n p c e => by
    obtain ⟨_, op, oc, _⟩ := k.src p c e
    exact ⟨fun z => n (z ▸ op), fun z => n (z ▸ oc)⟩
  have srcH : ∀ p c, so = some (p, c) → SrcOk H' p c := fun p c e => by
    rcases h4 with h4 | h4
    · obtain ⟨x, _⟩ := k.src p c e
      have ns : ∀ a, ¬ C'.S a := fun a ⟨p, c, e, _⟩ => by rw [h4] at e; cases e
      obtain ⟨o1, e1⟩ := x.at1
      obtain ⟨o2, e2⟩ := x.at2
      exact x.same ((r.keep _ _ (by rw [h2]; exact e1) (ns _)).trans e1.symm) ((r.keep _ _ (by rw [h2]; exact e2) (ns _)).trans e2.symm)
    · exact r.src p c (by rw [h4]; exact e)
  have ownK : ∀ i a, OwnAt σ env i a → H' a = H a := fun i a h => by
    obtain ⟨_, _, o, e⟩ := k.ownSome h
    exact (kp e fun p c e' => (k.src p c e').2.2.2.2 i a h).trans e.symm
  have frK : ∀ a o, C.Hb a = some o → ¬ C.S a → H' a = some o := fun a o e hs => by
    refine kp (k.fr a o e hs) fun p c e' => ?_
    obtain ⟨_, _, _, hb, _⟩ := k.src p c e'
    rcases hb with ⟨b1, b2⟩ | ⟨b1, b2⟩
    · exact ⟨fun z => hs (z ▸ b1), fun z => hs (z ▸ b2)⟩
    · exact ⟨fun z => (by rw [z, b1] at e; cases e), fun z => (by rw [z, b2] at e; cases e)⟩
  have domK : ∀ a, O a → ∃ o, H' a = some o := fun a oa => by
    obtain ⟨o, e⟩ := k.dom a oa
    by_cases hs : ∃ p c, so = some (p, c) ∧ (a = p ∨ a = c)
    · obtain ⟨p, c, e', z⟩ := hs
      rcases z with rfl | rfl
      · exact (srcH _ _ e').at1
      · exact (srcH _ _ e').at2
    · exact ⟨o, kp e fun p c e' => ⟨fun z => hs ⟨p, c, e', .inl z⟩, fun z => hs ⟨p, c, e', .inr z⟩⟩⟩
  have pinK : ∀ q ∈ pn, H' q.1 = some q.2 := fun q hq => by
    obtain ⟨e, _, _, _, ns⟩ := k.pin q hq
    exact kp e ns
  cases fr with
  | false =>
    have st : Step H O H' O := ⟨fun a o e n => kp e (outO n), fun a z => .inl z⟩
    refine ⟨O, k.move st (fun i a h => ⟨(k.ownSome h).1, ownK i a h⟩) frK domK k.sub (fun p c e => ⟨srcH p c e, (k.src p c e).2.1, (k.src p c e).2.2.1⟩) fun q hq => ⟨pinK q hq, (k.pin q hq).2.1⟩, ?_, st⟩
    have := r.old rfl
    rw [h1, h3] at this
    exact this
  | true =>
    obtain ⟨a, rfl, na, _, c⟩ := r.new rfl
    rw [h2] at na
    rw [h1, h3] at c
    have st : Step H O H' (fun b => O b ∨ b = a) := ⟨fun b o e n => kp e (outO n), fun b z => by
      rcases z with z | rfl
      · exact .inl z
      · exact .inr na⟩
    refine ⟨_, k.move st (fun i b h => ⟨.inl (k.ownSome h).1, ownK i b h⟩) frK (fun b z => by
      rcases z with z | rfl
      · exact domK b z
      · exact c.some) (fun b z => .inl (k.sub b z)) (fun p c e => ⟨srcH p c e, .inl (k.src p c e).2.1, .inl (k.src p c e).2.2.1⟩) (fun q hq => ⟨pinK q hq, .inl (k.pin q hq).2.1⟩), ⟨a, rfl, .inr rfl, (k.hbnew na).1, c, fun i h => ?_, fun p' c' e => ?_, fun q hq => ?_⟩, st⟩
    · obtain ⟨_, _, o, e⟩ := k.ownSome h; rw [na] at e; cases e
    · obtain ⟨x, _⟩ := k.src p' c' e
      obtain ⟨o, e1⟩ := x.at1
      obtain ⟨o2, e2⟩ := x.at2
      exact ⟨(ne_new na e1).symm, (ne_new na e2).symm⟩
    · exact ne_new na (k.pin q hq).1
end
section
variable {X : Cx} {C : Cc} {e : Expr} {es : List Expr} {pos p : Pos} {we : Wx} {k n : Nat} {x : Str} {F : Fn}
theorem tE_call {src : Bool} {σ : Sg} {H : Hp} {env : Ev} {O : Addr → Prop} {pn : List (Addr × HO)} {ds : List D} {ws vs : List V} {kk : Vl → Ev → Prop} {Q : VK} (K : Ok8 C C.so pn σ H env O) (f : FzL C.K H O ws ds) (hn : vs.length = n)
    (hs : if src = true then ∃ p c, C.so = some (p, c) ∧ vs = .ref p :: ws else vs = ws) (W : F ds fun fr d => kk (rets fr d) env) (q : ∀ vl env' v H' O', kk vl env' → Ok8 C C.so pn σ H' env' O' → VlOk C C.so pn H' O' σ env' vl v → Step H O H' O' → Q v H') :
    spD C.K n src F vs H Q E0 := by
  have fin : ∀ (so' : Option (Addr × Addr)), (so' = none ∨ so' = C.so) → ∀ fr d v H', kk (rets fr d) env → RtOk ⟨C.K, H, O, so'⟩ H' fr d v → Q v H' := fun so' hso fr d v H' hk r => by
    obtain ⟨O', k', v', s'⟩ := after_call (C' := ⟨C.K, H, O, so'⟩) K rfl rfl rfl hso r
    exact q _ _ _ _ _ hk k' v' s'
  cases src with
  | true =>
    obtain ⟨p, c, e, rfl⟩ := hs
    refine ⟨hn, ⟨C.K, H, O, C.so⟩, ds, ws, _, rfl, rfl, K.dom, fun a ⟨p', c', e', z⟩ => ?_, fun p' c' e' => (K.src p' c' e').1, ⟨p, c, e, rfl⟩, f, W, fin _ (.inr rfl)⟩
    obtain ⟨_, op, oc, _⟩ := K.src p' c' e'
    rcases z with rfl | rfl
    · exact op
    · exact oc
  | false =>
    simp only [Bool.false_eq_true, if_false] at hs
    subst hs
    exact ⟨hn, ⟨C.K, H, O, none⟩, ds, vs, _, rfl, rfl, K.dom, fun a ⟨p', c', e', z⟩ => (by cases e'), fun p' c' e' => (by cases e'), ⟨rfl, rfl⟩, f, W, fin _ (.inl rfl)⟩
theorem pe_callG {src : Bool} {t : TA} (c : Cal X k x n src F) (hr : Room k X.A) (hgd : X.A.guards = some []) (hg : Gl X x) (ha : PA X (e :: es) t) (hp : plainE e = true) (hps : es.all plainE = true) :
    PE X (.Call (.Name x p) (e :: es) [] pos) (fun σ H Q => t σ H fun vs H1 => spD X.K n src F vs H1 Q E0) := by
  obtain ⟨f, fd, ps, hm, hk, hb, G⟩ := c.ex
  refine ⟨fun pins s σ H Q I h => ?_⟩
  refine wpAny_Call_Name_kw (ld_glob I hg hm ?_ c.dbg)
  exact PySem.W.callWith_K (h₀ := X.base) I.ok.mod.kin hk (thn (ha.run pos pins s σ H _ I h) fun us s1 ⟨vs, H1, I1, r, q⟩ => ⟨I1.kIn, run_g G hr hgd hb I1 r q⟩) (star_plain hp) (star_all hps)
theorem so_call (hK : X.K = C.K) (c : Cal X k x n false F) (hr : Room k X.A) (hgd : X.A.guards = some []) (hg : Gl X x) (ha : PA X (e :: es) (tA C we)) (hp : plainE e = true) (hps : es.all plainE = true) :
    PE X (.Call (.Name x p) (e :: es) [] pos) (tE C fun env k => srcAt none env ∧ we env fun va e1 => ∃ xs, va = .fz (.tuple xs) ∧ F xs fun fr d => k (rets fr d) e1) := by
  refine (pe_callG c hr hgd hg ha hp hps).weak fun σ H Q ⟨pn, env, O, k, K, ⟨_, W⟩, q⟩ => ?_
  refine ⟨pn, env, O, _, K, W, fun ds e1 vs H1 O1 ⟨xs, ex, w1⟩ k1 f1 s1 => ?_⟩
  cases ex
  rw [hK]
  refine tE_call (ws := vs) k1 f1 ?_ rfl w1 fun vl env' v H' O' w2 k2 v2 s2 => q _ _ _ _ _ w2 k2 v2 (s1.trans s2)
  rw [f1.length]
  simpa using c.ar _ _ w1
theorem so_callS {i : Nat} {y : Str} {py : Pos} (hK : X.K = C.K) (hN : X.N[i]? = some y) (hv : Vis X.env.scope y) (hd : (y == ("__debug__" : Str)) = false) (hc : (y == ("__classdict__" : Str)) = false) (c : Cal X k x n true F) (hr : Room k X.A) (hgd : X.A.guards = some []) (hg : Gl X x)
    (ha : PA X es (tA C we)) (hps : es.all plainE = true) :
    PE X (.Call (.Name x p) (.Name y py :: es) [] pos) (tE C fun env k => srcAt (some i) env ∧ we env fun va e1 => ∃ xs, va = .fz (.tuple xs) ∧ F xs fun fr d => k (rets fr d) e1) := by
  have hs : ∀ {env : Env}, starEach (.Name y py :: es) env = (false, eval (.Name y py) env) :: starEach es env := star_plain rfl
  refine (pe_callG c hr hgd hg (pa_cons (pe_var hN hv hd hc) ha hs) rfl hps).weak fun σ H Q ⟨pn, env, O, k, K, ⟨hsrc, W⟩, q⟩ => ?_
  have sl := K.slot i
  have hsrc : env.getD i .no = .src := hsrc
  rw [hsrc] at sl
  obtain ⟨p, cc, e1, e2⟩ := sl
  refine ⟨_, e2, pn, env, O, _, K, W, fun ds e1' vs H1 O1 ⟨xs, ex, w1⟩ k1 f1 s1 => ?_⟩
  cases ex
  rw [hK]
  refine tE_call (ws := vs) k1 f1 ?_ ⟨p, cc, e1, rfl⟩ w1 fun vl env' v H' O' w2 k2 v2 s2 => q _ _ _ _ _ w2 k2 v2 (s1.trans s2)
  have := c.ar _ _ w1
  rw [List.length_cons, f1.length]
  simpa using this

/-! ### a def's body keeps its promise -/
theorem guards_deeper {A : Around} {env : Env} (h : A.guards = some []) : (A.deeper env).guards = some [] := h
theorem frame_get {d : Df} {xs : List D} {i : Nat} : (frame d xs).getD i .no = if d.src = true then (if i = 0 then .src else if h : i - 1 < xs.length then .fz xs[i - 1] else .no) else if h : i < xs.length then .fz xs[i] else .no := by
  unfold frame
  simp only [List.getD_eq_getElem?_getD]
  by_cases hs : d.src = true
  · simp only [hs, if_true]
    cases i with
    | zero => simp
    | succ i =>
      simp only [List.cons_append, List.nil_append, List.getElem?_cons_succ, Nat.add_one_ne_zero, if_false, Nat.add_sub_cancel]
      by_cases h : i < xs.length
      · rw [List.getElem?_append_left (by simpa using h)]; simp [h]
      · rw [List.getElem?_append_right (by simpa using Nat.le_of_not_lt h)]
        simp only [h, dif_neg, not_false_eq_true, List.getElem?_replicate]
        split <;> rfl
  · simp only [hs, Bool.false_eq_true, if_false, List.nil_append]
    by_cases h : i < xs.length
    · rw [List.getElem?_append_left (by simpa using h)]; simp [h]
    · rw [List.getElem?_append_right (by simpa using Nat.le_of_not_lt h)]
      simp only [h, dif_neg, not_false_eq_true, List.getElem?_replicate]
      split <;> rfl
theorem frame_len {d : Df} {xs : List D} (h : xs.length + (if d.src = true then 1 else 0) = d.par) (hp : d.par ≤ d.slots) : (frame d xs).length = d.slots := by
  unfold frame
  by_cases hs : d.src = true
  · simp [hs] at h ⊢; omega
  · simp [hs] at h ⊢; omega
/-- the frame at the entry -/
theorem start_ok {d : Df} {C : Cc} {H : Hp} {vs ws : List V} {ds : List D} {N : List Str} (hH : C.Hb = H) (h0 : ∀ a, C.O0 a → ∃ o, H a = some o) (hS : ∀ a, C.S a → C.O0 a) (hsrc : ∀ p c, C.so = some (p, c) → SrcOk H p c)
    (hvs : if d.src = true then ∃ p c, C.so = some (p, c) ∧ vs = .ref p :: ws else C.so = none ∧ vs = ws) (f : FzL C.K H C.O0 ws ds) (har : ds.length + (if d.src = true then 1 else 0) = d.par) (hp : d.par ≤ d.slots) (hN : N.length = d.slots) :
    Ok8 C C.so [] (L2.start N vs) H (frame d ds) C.O0 := by
  have noOwn : ∀ i a, ¬ OwnAt (L2.start N vs) (frame d ds) i a := fun i a ⟨h1, _⟩ => by
    rw [frame_get] at h1
    split at h1
    · split at h1
      · cases h1
      · split at h1 <;> cases h1
    · split at h1 <;> cases h1
  have hvl : vs.length = d.par := by
    by_cases hs : d.src = true
    · simp only [hs, if_true] at hvs har
      obtain ⟨p, c, _, rfl⟩ := hvs
      rw [List.length_cons, f.length]; exact har
    · simp only [hs, Bool.false_eq_true, if_false] at hvs har
      obtain ⟨_, rfl⟩ := hvs
      rw [f.length]; exact har
  have at_ : ∀ i, i < vs.length → (L2.start N vs)[i]? = (vs[i]?).map some := fun i hi => by
    unfold L2.start
    rw [List.getElem?_append_left (by simpa using hi), List.getElem?_map]
  refine ⟨?_, fun i => ?_, fun i j a x _ => absurd x (noOwn i a), fun a o e _ => by rw [hH] at e; exact e, h0, fun a z => z, fun a z => by rw [hH]; exact h0 a z, fun p c e => ?_, hS, fun q hq => by cases hq⟩
  · rw [frame_len har hp]
    unfold L2.start
    simp; omega
  · rw [frame_get]
    by_cases hs : d.src = true
    · simp only [hs, if_true] at hvs ⊢
      obtain ⟨p, c, e, rfl⟩ := hvs
      by_cases hi : i = 0
      · subst hi
        exact ⟨p, c, e, by rw [at_ 0 (by simp)]; rfl⟩
      · rw [if_neg hi]
        by_cases h : i - 1 < ds.length
        · rw [dif_pos h]
          obtain ⟨v, ev, fv⟩ := f.get' (i := i - 1) (d := ds[i - 1]) (by simp [h])
          refine ⟨v, ?_, fv⟩
          rw [at_ i (by simp [f.length]; omega)]
          obtain ⟨j, rfl⟩ : ∃ j, i = j + 1 := ⟨i - 1, by omega⟩
          simp at ev ⊢; exact ev
        · rw [dif_neg h]; trivial
    · simp only [hs, Bool.false_eq_true, if_false] at hvs ⊢
      obtain ⟨_, rfl⟩ := hvs
      by_cases h : i < ds.length
      · rw [dif_pos h]
        obtain ⟨v, ev, fv⟩ := f.get' (i := i) (d := ds[i]) (by simp [h])
        exact ⟨v, by rw [at_ i (by rw [f.length]; exact h), ev]; rfl, fv⟩
      · rw [dif_neg h]; trivial
  · have S1 : C.S p := ⟨p, c, e, .inl rfl⟩
    have S2 : C.S c := ⟨p, c, e, .inr rfl⟩
    exact ⟨hsrc p c e, hS p S1, hS c S2, .inl ⟨S1, S2⟩, fun i a h => absurd h (noOwn i a)⟩
/-- THE RULE for a def -/
theorem fn_g {P : Program} {w : World} {K : PySem.W.Frag} {mg : Str → Option Value} {base : Heap} {k : Nat} {f : Addr} {x qual : Str} {params : Arguments} {body : List Stmt} {scope : Scope} {fd : FuncData} {N ps : List Str} {d : Df} {F : Fns} (Fu : FunD K x qual params body scope [] [] f fd) (S : FnScope N ps scope)
    (hps : ps.length = d.par) (hp : d.par ≤ d.slots) (hN : N.length = d.slots)
    (hbody : ∀ (X : Cx) (C : Cc), X.prog = P → X.w = w → X.K = K → X.mg = mg → X.base = base → X.N = N → X.env.scope = scope → X.calm = true → (X.xe = fun _ _ => False) → Room k X.A → X.A.guards = some [] → (∀ y, X.fn y = true) → C.K = K → FrOk X.A → PSs X body (tS C (wS F d.body))) :
    FnG P w K mg base (k + 1) f fd ps (spD K d.par d.src (run F d)) := by
  obtain ⟨oc, od, dV, kV, doc, pm, an, cdv, ct, osl, rfl, lk, hcd, _, _⟩ := Fu.ex
  have len : ∀ vs H Q E, spD K d.par d.src (run F d) vs H Q E → vs.length = ps.length := fun vs H Q E h => h.1.trans hps.symm
  refine ⟨len, fun A outer s H args us vs Q E hr hgd e0 hb r hsp => ?_⟩
  have hl := len _ _ _ _ hsp
  have KX : K.In s.heap := e0.mod.kin.keeps fun b o e => (e0.bs b o e).1
  have lim : s.heap.NoLimit := e0.mod.nolimit.keeps fun b o e => (e0.bs b o e).1
  have hkind : ∀ y ∈ ps.zip us, scope.names.lookup y.1 = some .local ∨ (scope.names.lookup y.1 = some .cell ∧ ((cellsFrom (s.heap.objs.size + 1) scope.names []).lookup y.1).isSome = true) := fun y hy => by
    have hy1 : y.1 ∈ ps := (List.of_mem_zip (a := y.1) (b := y.2) hy).1
    cases S.par y.1 hy1 with
    | inl q => exact .inl q
    | inr q => exact .inr ⟨q, PySem.W.cellsFrom_some _ _ _ (.inl q)⟩
  refine codeAny_call_function hr.depth (KX _ _ lk) rfl S.co S.gen rfl (PySem.W.codeRec_of KX hcd) (hb _ _ _ _ ?_)
  refine wpAny_newFunctionEnv_cells S.kind hkind fun env he s1 xx => ?_
  subst he
  refine ⟨lim.keeps xx.toInCall.keep, codeAny_func ?_⟩
  -- the body, in a frame out of which no exception leaves
  let X : Cx := (cxOf CX0 P w K mg base N qual scope f cdv A outer s H E).nox
  obtain ⟨_, C, ds, ws, kk, hK, hH, h0, hS, hsrc, hvs, fz, ⟨har, hw⟩, hq⟩ := hsp
  have B : PSs X body (tS C (wS F d.body)) := hbody X C rfl rfl rfl rfl rfl rfl rfl rfl rfl (hr.deeper _) (guards_deeper hgd) (fun _ => rfl) hK ⟨_, _, Around.frames_deeper e0.frames, S.gen, S.co, rfl, rfl⟩
  have I0 : Inv (cxOf CX0 P w K mg base N qual scope f cdv A outer s H E) [] (L2.start N vs) H s1 := inv_start S hr.hd e0 hl r xx
  have ok : Ok8 C C.so [] (L2.start N vs) H (frame d ds) C.O0 := start_ok hH h0 hS hsrc hvs (by rw [hK]; exact fz) har hp hN
  have T : tS C (wS F d.body) { nx := fun _ H' => Q .non H', rt := Q } (L2.start N vs) H := by
    refine ⟨[], _, _, _, ok, hw, fun env' σ' H' O' hk k' _ => ?_, fun _ _ _ _ hk _ _ => hk.elim, fun fr d v H' hk rk => hq _ _ _ _ hk rk⟩
    exact hq _ _ _ _ hk ⟨k'.fr, fun p c e => (k'.src p c e).1, fun _ => .non, fun z => by cases z⟩
  refine wpAny_mono (B.nox.run [] s1 (L2.start N vs) H _ I0 T) (fun fl s' hs => ?_) fun e s' hs => hs
  cases fl with
  | ret u =>
    obtain ⟨v, σ', H', J, rv, q⟩ := hs
    exact ⟨v, H', J.os, J.bare, J.base, J.hok, rv, q⟩
  | next =>
    obtain ⟨σ', H', J, q⟩ := hs
    exact ⟨.non, H', J.os, J.bare, J.base, J.hok, rfl, q⟩
  | brk => obtain ⟨_, _, _, q⟩ := hs; exact q.elim
  | cont => obtain ⟨_, _, _, q⟩ := hs; exact q.elim
end
end Ev
/-! EvRule: which rule serves which form; chains of comparisons; what is True, False. -/
namespace Ev
open PySem PySem.Spec PyProof.Rows L2

def opOk : Bop → Operator → Bool
  | .addI, .Add => true | .addL, .Add => true | .addT, .Add => true | .addS, .Add => true
  | .subI, .Sub => true
  | .mulI, .Mult => true | .mulL, .Mult => true | .mulT, .Mult => true
  | .fdivI, .FloorDiv => true | .modI, .Mod => true | .powI, .Pow => true
  | _, _ => false
def copOk : Cop → CmpOp → Bool
  | .eq, .Eq => true | .ne, .NotEq => true | .eqI, .Eq => true | .neI, .NotEq => true | .eqS, .Eq => true | .neS, .NotEq => true
  | .ltI, .Lt => true | .leI, .LtE => true | .gtI, .Gt => true | .geI, .GtE => true
  | .inQ, .In => true | .ninQ, .NotIn => true
  | _, _ => false
section
variable {X : Cx} {C : Cc}
theorem bop_rule {o : Bop} {op : Operator} (hd : Dvs X) (hK : X.K = C.K) (h : opOk o op = true) : ∃ r, OpR X (binaryOp op) r ∧
    ∀ (H : Hp) (O : Addr → Prop) (x y : V) (dx dy : D) (k : Bool → D → Prop) (Q : VK), Rp C.K H O x dx → Rp C.K H O y dy → bopS o dx dy k → (∀ fr d v H', k fr d → Res C.K H O fr d v H' → Q v H') → r x y H Q := by
  cases o with
  | addI =>
    cases op <;> first
      | (cases h; done)
      | exact ⟨_, op_add, fun _ _ _ _ _ _ _ _ a b c d => v_addI a b c d⟩
  | subI =>
    cases op <;> first
      | (cases h; done)
      | exact ⟨_, op_sub, fun _ _ _ _ _ _ _ _ a b c d => v_subI a b c d⟩
  | mulI =>
    cases op <;> first
      | (cases h; done)
      | exact ⟨_, op_mulA, fun _ _ _ _ _ _ _ _ a b c d => v_mulI a b c d⟩
  | fdivI =>
    cases op <;> first
      | (cases h; done)
      | exact ⟨_, op_fdivA hd, fun _ _ _ _ _ _ _ _ a b c d => v_fdivI a b c d⟩
  | modI =>
    cases op <;> first
      | (cases h; done)
      | exact ⟨_, op_mod, fun _ _ _ _ _ _ _ _ a b c d => v_modI a b c d⟩
  | powI =>
    cases op <;> first
      | (cases h; done)
      | exact ⟨_, op_pow, fun _ _ _ _ _ _ _ _ a b c d => v_powI a b c d⟩
  | addL =>
    cases op <;> first
      | (cases h; done)
      | exact ⟨_, op_cat, fun _ _ _ _ _ _ _ _ a b c d => v_addL a b c d⟩
  | addT =>
    cases op <;> first
      | (cases h; done)
      | exact ⟨_, op_catF, fun _ _ _ _ _ _ _ _ a b c d => by rw [hK]; exact v_addT a b c d⟩
  | mulL =>
    cases op <;> first
      | (cases h; done)
      | exact ⟨_, op_rep, fun _ _ _ _ _ _ _ _ a b c d => v_mulL a b c d⟩
  | mulT =>
    cases op <;> first
      | (cases h; done)
      | exact ⟨_, op_repA, fun _ _ _ _ _ _ _ _ a b c d => by rw [hK]; exact v_mulT a b c d⟩
  | addS =>
    cases op <;> first
      | (cases h; done)
      | exact ⟨_, op_add_str, fun _ _ _ _ _ _ _ _ a b c d => v_addS a b c d⟩
theorem hc_lt : ∀ dx dy k, cmpS .ltI dx dy k → ∃ i j, dx = .int i ∧ dy = .int j ∧ k (decide (i < j)) := by
  intro dx dy k h; cases dx <;> cases dy <;> simp only [cmpS] at h <;> first | exact ⟨_, _, rfl, rfl, h⟩ | exact h.elim
theorem hc_le : ∀ dx dy k, cmpS .leI dx dy k → ∃ i j, dx = .int i ∧ dy = .int j ∧ k (decide (i ≤ j)) := by
  intro dx dy k h; cases dx <;> cases dy <;> simp only [cmpS] at h <;> first | exact ⟨_, _, rfl, rfl, h⟩ | exact h.elim
theorem hc_gt : ∀ dx dy k, cmpS .gtI dx dy k → ∃ i j, dx = .int i ∧ dy = .int j ∧ k (decide (j < i)) := by
  intro dx dy k h; cases dx <;> cases dy <;> simp only [cmpS] at h <;> first | exact ⟨_, _, rfl, rfl, h⟩ | exact h.elim
theorem hc_ge : ∀ dx dy k, cmpS .geI dx dy k → ∃ i j, dx = .int i ∧ dy = .int j ∧ k (decide (j ≤ i)) := by
  intro dx dy k h; cases dx <;> cases dy <;> simp only [cmpS] at h <;> first | exact ⟨_, _, rfl, rfl, h⟩ | exact h.elim
theorem cop_rule {c : Cop} {op : CmpOp} {k : Nat} (hK : X.K = C.K) (hr : Room k X.A) (h : copOk c op = true) : ∃ r, OpR X (compareOp op) r ∧
    ∀ (H : Hp) (O : Addr → Prop) (x y : V) (dx dy : D) (k : Bool → Prop) (Q : VK), Rp C.K H O x dx → Rp C.K H O y dy → cmpS c dx dy k → (∀ t, k t → Q (.bl t) H) → r x y H Q := by
  have hu := hr.units
  cases c with
  | eq =>
    cases op <;> first
      | (cases h; done)
      | exact ⟨_, op_eqD hu, fun _ _ _ _ _ _ _ _ a b c d => by rw [hK]; exact v_eq a b c d⟩
  | ne =>
    cases op <;> first
      | (cases h; done)
      | exact ⟨_, op_neD hu, fun _ _ _ _ _ _ _ _ a b c d => by rw [hK]; exact v_ne a b c d⟩
  | eqI =>
    cases op <;> first
      | (cases h; done)
      | exact ⟨_, op_eq, fun _ _ _ _ _ _ _ _ a b c d => v_eqI a b c d⟩
  | neI =>
    cases op <;> first
      | (cases h; done)
      | exact ⟨_, op_ne, fun _ _ _ _ _ _ _ _ a b c d => v_neI a b c d⟩
  | eqS =>
    cases op <;> first
      | (cases h; done)
      | exact ⟨_, op_eq, fun _ _ _ _ _ _ _ _ a b c d => v_eqS a b c d⟩
  | neS =>
    cases op <;> first
      | (cases h; done)
      | exact ⟨_, op_ne, fun _ _ _ _ _ _ _ _ a b c d => v_neS a b c d⟩
  | ltI =>
    cases op <;> first
      | (cases h; done)
      | exact ⟨_, op_lt, fun _ _ _ _ _ _ _ _ a b c d => c_int a b c hc_lt d⟩
  | leI =>
    cases op <;> first
      | (cases h; done)
      | exact ⟨_, op_le, fun _ _ _ _ _ _ _ _ a b c d => c_int a b c hc_le d⟩
  | gtI =>
    cases op <;> first
      | (cases h; done)
      | exact ⟨_, op_gt, fun _ _ _ _ _ _ _ _ a b c d => c_int a b c hc_gt d⟩
  | geI =>
    cases op <;> first
      | (cases h; done)
      | exact ⟨_, op_ge, fun _ _ _ _ _ _ _ _ a b c d => c_int a b c hc_ge d⟩
  | inQ =>
    cases op <;> first
      | (cases h; done)
      | exact ⟨_, op_in_seq, fun _ _ _ _ _ _ _ _ a b c d => by rw [hK]; exact v_in a b c hc_in d⟩
  | ninQ =>
    cases op <;> first
      | (cases h; done)
      | exact ⟨_, op_notIn_seq, fun _ _ _ _ _ _ _ _ a b c d => by rw [hK]; exact v_in a b c hc_nin d⟩
  | ltT => cases op <;> cases h
  | leT => cases op <;> cases h
  | gtT => cases op <;> cases h
  | geT => cases op <;> cases h

/-! ### a < b < c -/
variable {a b e : Expr} {wa wb we : Wx} {pos : Pos}
def wCh (c d : Cop) (wa wb we : Wx) : Wx := fun env k => wa env fun va e1 => wb e1 fun vb e2 => with1 va e2 fun x => with1 vb e2 fun y => cmpS c x y fun r =>
      if r = true then we e2 fun ve e3 => with1 vb e3 fun y => with1 ve e3 fun z => cmpS d y z fun r => k (.fz (.bool r)) e3 else k (.fz (.bool false)) e2
theorem ch_read {r r' : R2} {c d : Cop} (hr : ∀ (H : Hp) (O : Addr → Prop) (x y : V) (dx dy : D) (k : Bool → Prop) (Q : VK), Rp C.K H O x dx → Rp C.K H O y dy → cmpS c dx dy k → (∀ t, k t → Q (.bl t) H) → r x y H Q)
    (hr' : ∀ (H : Hp) (O : Addr → Prop) (x y : V) (dx dy : D) (k : Bool → Prop) (Q : VK), Rp C.K H O x dx → Rp C.K H O y dy → cmpS d dx dy k → (∀ t, k t → Q (.bl t) H) → r' x y H Q) (σ : Sg) (H : Hp) (Q : VK)
    (h : tE C (wCh c d wa wb we) σ H Q) : tChain r r' (tE C wa) (tE C wb) (tE C we) σ H Q := by
  obtain ⟨pn, env, O, k, K, W, q⟩ := h
  refine ⟨pn, env, O, _, K, W, fun va e1 x H1 O1 w1 k1 v1 s1 => ?_⟩
  obtain ⟨O1', k1', s1', h1⟩ := v1.settle k1
  refine ⟨pn, e1, O1', _, k1', w1, fun vb e2 y H2 O2 w2 k2 v2 s2 => ?_⟩
  obtain ⟨dx, ex, dy, ey, w3⟩ := w2
  obtain ⟨O2', k2', s2', h2⟩ := v2.settle k2
  refine hr H2 O2' x y dx dy _ _ (((h1.step s2).step s2').rd k2' ex) (h2.rd k2' ey) w3 fun t w4 => ⟨t, rfl, ?_⟩
  have st := s1.trans (s1'.trans (s2.trans s2'))
  cases t with
  | true =>
    refine iteT ?_
    simp only [if_true] at w4
    refine ⟨pn, e2, O2', _, k2', w4, fun ve e3 z H3 O3 w5 k3 v3 s3 => ?_⟩
    obtain ⟨dy', ey', dz, ez, w6⟩ := w5
    exact hr' H3 O3 y z dy' dz _ Q ((h2.step s3).rd k3 ey') (v3.rd k3 ez) w6 fun t w7 => q _ _ _ _ _ w7 k3 (.bl t) (st.trans s3)
  | false =>
    refine iteF ?_
    simp only [Bool.false_eq_true, if_false] at w4
    exact q _ _ _ _ _ w4 k2' (.bl _) st
theorem so_chE {r r' : R2} {c d : Cop} {op op' : CmpOp} (ho : OpR X (compareOp op) r) (ho' : OpR X (compareOp op') r') (ha : PE X a (tE C wa)) (hb : PE X b (tE C wb)) (hc : PE X e (tE C we)) (hm : lastMarks [op, op'] [b, e] = false)
    (hr : ∀ (H : Hp) (O : Addr → Prop) (x y : V) (dx dy : D) (k : Bool → Prop) (Q : VK), Rp C.K H O x dx → Rp C.K H O y dy → cmpS c dx dy k → (∀ t, k t → Q (.bl t) H) → r x y H Q)
    (hr' : ∀ (H : Hp) (O : Addr → Prop) (x y : V) (dx dy : D) (k : Bool → Prop) (Q : VK), Rp C.K H O x dx → Rp C.K H O y dy → cmpS d dx dy k → (∀ t, k t → Q (.bl t) H) → r' x y H Q) : PE X (.Compare a [op, op'] [b, e] pos) (tE C (wCh c d wa wb we)) :=
  (pe_chain ho ho' ha hb hc hm).weak fun σ H Q h => ch_read hr hr' σ H Q h
theorem so_chT {r r' : R2} {c d : Cop} {op op' : CmpOp} (ho : OpR X (compareOp op) r) (ho' : OpR X (compareOp op') r') (ha : PE X a (tE C wa)) (hb : PE X b (tE C wb)) (hc : PE X e (tE C we)) (hm : lastMarks [op, op'] [b, e] = false)
    (hr : ∀ (H : Hp) (O : Addr → Prop) (x y : V) (dx dy : D) (k : Bool → Prop) (Q : VK), Rp C.K H O x dx → Rp C.K H O y dy → cmpS c dx dy k → (∀ t, k t → Q (.bl t) H) → r x y H Q)
    (hr' : ∀ (H : Hp) (O : Addr → Prop) (x y : V) (dx dy : D) (k : Bool → Prop) (Q : VK), Rp C.K H O x dx → Rp C.K H O y dy → cmpS d dx dy k → (∀ t, k t → Q (.bl t) H) → r' x y H Q) : PT X (.Compare a [op, op'] [b, e] pos) (tT C (wCh c d wa wb we)) := by
  refine (pt_chain ho ho' ha hb hc hm).weak fun σ H Q ⟨pn, env, O, k, K, W, q⟩ => ?_
  refine ch_read hr hr' σ H _ ⟨pn, env, O, _, K, W, fun vl e1 v H1 O1 ⟨t, et, w1⟩ k1 v1 s1 => ?_⟩
  subst et
  cases (show Fz C.K H1 O1 v (.bool t) from v1)
  exact ⟨t, rfl, q _ _ _ _ w1 k1 s1⟩

/-! ### x is True -/
theorem op_isB : OpR X (compareOp .Is) (fun x y H Q => ∃ a b, x = .bl a ∧ y = .bl b ∧ Q (.bl (a == b)) H) := by
  intro pins s σ H x y v u Q I rx ry h
  obtain ⟨a, b, rfl, rfl, q⟩ := h
  cases rx
  cases ry
  have e : (Value.bool a == Value.bool b) = (a == b) := by cases a <;> cases b <;> rfl
  exact wpAny_pure ⟨.bl (a == b), H, I, congrArg Value.bool e, q⟩
theorem op_notB : OpR X (compareOp .IsNot) (fun x y H Q => ∃ a b, x = .bl a ∧ y = .bl b ∧ Q (.bl (a != b)) H) := by
  intro pins s σ H x y v u Q I rx ry h
  obtain ⟨a, b, rfl, rfl, q⟩ := h
  cases rx
  cases ry
  have e : (!(Value.bool a == Value.bool b)) = (a != b) := by cases a <;> cases b <;> rfl
  exact wpAny_pure ⟨.bl (a != b), H, I, congrArg Value.bool e, q⟩
theorem is_read {g : Bool → Bool → Bool} {b : Bool} (σ : Sg) (H : Hp) (Q : VK) (h : tE C (fun env k => wa env fun va e1 => ∃ c, va = .fz (.bool c) ∧ k (.fz (.bool (g c b))) e1) σ H Q) :
    tOp (fun x y H Q => ∃ a b, x = .bl a ∧ y = .bl b ∧ Q (.bl (g a b)) H) (tE C wa) (tC (.bl b)) σ H Q := by
  obtain ⟨pn, env, O, k, K, W, q⟩ := h
  refine ⟨pn, env, O, _, K, W, fun va e1 x H1 O1 ⟨c, ec, w1⟩ k1 v1 s1 => ?_⟩
  subst ec
  cases (show Fz C.K H1 O1 x (.bool c) from v1)
  exact ⟨c, b, rfl, rfl, q _ _ _ _ _ w1 k1 (.bl _) s1⟩
theorem as_test {t : TE} {W : Wx} (h : ∀ σ H Q, tE C W σ H Q → t σ H Q) : ∀ σ H Q, tT C W σ H Q → tTest t σ H Q := by
  intro σ H Q ⟨pn, env, O, k, K, W', q⟩
  refine h σ H _ ⟨pn, env, O, _, K, W', fun vl e1 v H1 O1 ⟨t, et, w1⟩ k1 v1 s1 => ?_⟩
  subst et
  cases (show Fz C.K H1 O1 v (.bool t) from v1)
  exact ⟨t, rfl, q _ _ _ _ w1 k1 s1⟩
theorem so_isB {b : Bool} {j pos'} (ha : PE X a (tE C wa)) : PE X (.Compare a [.Is] [.Constant (.bool b) j pos'] pos) (tE C fun env k => wa env fun va e1 => ∃ c, va = .fz (.bool c) ∧ k (.fz (.bool (c == b))) e1) :=
  (pe_cmpR op_isB ha pe_bl (nomark _)).weak fun σ H Q h => is_read σ H Q h
theorem so_notB {b : Bool} {j pos'} (ha : PE X a (tE C wa)) : PE X (.Compare a [.IsNot] [.Constant (.bool b) j pos'] pos) (tE C fun env k => wa env fun va e1 => ∃ c, va = .fz (.bool c) ∧ k (.fz (.bool (c != b))) e1) :=
  (pe_cmpR op_notB ha pe_bl (nomark _)).weak fun σ H Q h => is_read σ H Q h
theorem so_isBT {b : Bool} {j pos'} (ha : PE X a (tE C wa)) : PT X (.Compare a [.Is] [.Constant (.bool b) j pos'] pos) (tT C fun env k => wa env fun va e1 => ∃ c, va = .fz (.bool c) ∧ k (.fz (.bool (c == b))) e1) :=
  (pt_cmpR op_isB ha pe_bl (nomark _)).weak (as_test fun σ H Q h => is_read σ H Q h)
theorem so_notBT {b : Bool} {j pos'} (ha : PE X a (tE C wa)) : PT X (.Compare a [.IsNot] [.Constant (.bool b) j pos'] pos) (tT C fun env k => wa env fun va e1 => ∃ c, va = .fz (.bool c) ∧ k (.fz (.bool (c != b))) e1) :=
  (pt_cmpR op_notB ha pe_bl (nomark _)).weak (as_test fun σ H Q h => is_read σ H Q h)
theorem isN_read (σ : Sg) (H : Hp) (Q : VK) (h : tE C (fun env k => wa env fun va e1 => with1 va e1 fun x => k (.fz (.bool (isNoneD x))) e1) σ H Q) : tIsN (tE C wa) σ H Q := by
  obtain ⟨pn, env, O, k, K, W, q⟩ := h
  refine ⟨pn, env, O, _, K, W, fun va e1 x H1 O1 ⟨d, ed, w1⟩ k1 v1 s1 => ?_⟩
  have r := v1.rd k1 ed
  have e : decide (x = .non) = isNoneD d := by
    rcases r with r | ⟨p, rfl, r⟩
    · cases r <;> rfl
    · cases d <;> first | rfl | exact False.elim r
  show Q (.bl (decide (x = .non))) H1
  rw [e]
  exact q _ _ _ _ _ w1 k1 (.bl _) s1
theorem notN_read (σ : Sg) (H : Hp) (Q : VK) (h : tE C (fun env k => wa env fun va e1 => with1 va e1 fun x => k (.fz (.bool (!isNoneD x))) e1) σ H Q) : tNotN (tE C wa) σ H Q := by
  obtain ⟨pn, env, O, k, K, W, q⟩ := h
  refine ⟨pn, env, O, _, K, W, fun va e1 x H1 O1 ⟨d, ed, w1⟩ k1 v1 s1 => ?_⟩
  have r := v1.rd k1 ed
  have e : (!decide (x = .non)) = !isNoneD d := by
    rcases r with r | ⟨p, rfl, r⟩
    · cases r <;> rfl
    · cases d <;> first | rfl | exact False.elim r
  show Q (.bl (!decide (x = .non))) H1
  rw [e]
  exact q _ _ _ _ _ w1 k1 (.bl _) s1
theorem so_isNT {j pos'} (ha : PE X a (tE C wa)) : PT X (.Compare a [.Is] [.Constant .none j pos'] pos) (tT C fun env k => wa env fun va e1 => with1 va e1 fun x => k (.fz (.bool (isNoneD x))) e1) :=
  (pt_cmp (pc_isN ha)).weak (as_test fun σ H Q h => isN_read σ H Q h)
theorem so_notNT {j pos'} (ha : PE X a (tE C wa)) : PT X (.Compare a [.IsNot] [.Constant .none j pos'] pos) (tT C fun env k => wa env fun va e1 => with1 va e1 fun x => k (.fz (.bool (!isNoneD x))) e1) :=
  (pt_cmp (pc_notN ha)).weak (as_test fun σ H Q h => notN_read σ H Q h)
end
end Ev
/-! EvIter: zip, enumerate, ranges that go down. -/
namespace Ev
open PySem PySem.Spec PyProof.Rows L2
section
variable {X : Cx} {C : Cc} {a b c : Expr} {pos p tpos : Pos} {wa : Wx} {elts : List Expr} {kk : Nat}
theorem seqL_of {H H' : Hp} {O O' : Addr → Prop} {p : Addr} {vs : List V} (n : ¬ O p) (e : H p = some (.lst vs)) (s : Step H O H' O') : SqL C.K H' p vs := SqL.of (s.keep _ _ e n)
theorem zipD_len {xs ys : List D} : (zipD xs ys).length = min xs.length ys.length := by simp [zipD]
theorem zipD_get {xs ys : List D} {i : Nat} {x y : D} (hx : xs[i]? = some x) (hy : ys[i]? = some y) : (zipD xs ys)[i]? = some (.tuple [x, y]) := by
  simp [zipD, hx, hy, List.getElem?_zipWith]
/-- pairs of what stands in two rows -/
theorem wk_zip {H : Hp} {O : Addr → Prop} {J : It} {vs ws : List V} {ds es : List D} (fz : FzL C.K H O vs ds) (fw : FzL C.K H O ws es) (zv : vs.length ≤ sizeLine)
    (stop : ∀ H' O' i, Step H O H' O' → (vs.length ≤ i ∨ ws.length ≤ i) → J.stop i H') (go : ∀ H' O' i x y, Step H O H' O' → vs[i]? = some x → ws[i]? = some y → J.go i H')
    (yld : ∀ H' O' i v H2, Step H O H' O' → J.yld i H' v H2 → ∃ T x y, v = .ref T ∧ H' T = none ∧ H2 = upd H' T (.tup [x, y]) ∧ vs[i]? = some x ∧ ws[i]? = some y) : Wk C true H O J (zipD ds es) := by
  have l1 := fz.length
  have l2 := fw.length
  refine ⟨by rw [zipD_len, ← l1]; omega, fun H' O' i s hi => stop H' O' i s ?_, fun H' O' i s hi => ?_, fun H' O' i x H2 s y hi => ?_⟩
  · rw [zipD_len] at hi; omega
  · rw [zipD_len] at hi
    have h1 : i < vs.length := by omega
    have h2 : i < ws.length := by omega
    exact go H' O' i vs[i] ws[i] s (by simp [h1]) (by simp [h2])
  · obtain ⟨T, x1, y1, rfl, n, rfl, e1, e2⟩ := yld H' O' i x H2 s y
    obtain ⟨d, hd, fd⟩ := fz.get e1
    obtain ⟨e, he, fe⟩ := fw.get e2
    exact ⟨_, zipD_get hd he, .inr ⟨rfl, T, [x1, y1], [d, e], n, rfl, rfl, rfl, by show 2 ≤ sizeLine; decide, .cons (fd.step s) (.cons (fe.step s) .nil)⟩⟩
theorem so_zip (T : Bool) (hK : X.K = C.K) (hp : plainE a = true) (hp2 : plainE b = true) (hg : Gl X "zip") (hm : X.mg "zip" = none) (ha : PA X [a, b] (tA C wa)) : PI X (.Tuple elts kk tpos) (.Call (.Name "zip" p) [a, b] [] pos) (tI C (if T = true then .zipT else .zipL) wa) := by
  have hs1 : starEach [a, b] X.env = (false, eval a X.env) :: starEach [b] X.env := star_plain hp
  have hs2 : starEach [b] X.env = (false, eval b X.env) :: starEach [] X.env := star_plain hp2
  refine (RZ.pi_zipA hg hm ha hs1 (by rw [hs2]; rfl)).weak fun σ H R ⟨pn, env, O, k, K, W, q⟩ => ?_
  refine ⟨pn, env, O, _, K, W, fun ds e1 vs H1 O1 w1 k1 f1 s1 => ?_⟩
  rw [hK]
  cases T with
  | false =>
    have w1 : walks .zipL (.tuple ds) fun ds => k ds e1 := w1
    match ds, w1, f1 with
    | [.list xs, .list ys], w1, .cons f (.cons g .nil) =>
      cases f with
      | lst n1 e z f =>
      cases g with
      | lst n2 e' z' g =>
        refine ⟨_, _, _, _, rfl, .inl ⟨SqL.of e, SqL.of e', q _ _ _ _ _ w1 k1 ?_ s1⟩⟩
        have t1 : ∀ {H' O'}, Step H1 O1 H' O' → SqL C.K H' _ _ := fun s => seqL_of (C := C) n1 e s
        have t2 : ∀ {H' O'}, Step H1 O1 H' O' → SqL C.K H' _ _ := fun s => seqL_of (C := C) n2 e' s
        exact wk_zip f g z (fun H' O' i s h => ⟨_, _, t1 s, t2 s, h⟩) (fun H' O' i x y s hx hy => ⟨_, _, x, y, t1 s, t2 s, hx, hy⟩) fun H' O' i v H2 s ⟨T, x, y, e1, e2, e3, e4, e5⟩ => ⟨T, x, y, e1, e2, e3, e4 _ (t1 s), e5 _ (t2 s)⟩
  | true =>
    have w1 : walks .zipT (.tuple ds) fun ds => k ds e1 := w1
    match ds, w1, f1 with
    | [.tuple xs, .tuple ys], w1, .cons f (.cons g .nil) =>
      obtain ⟨p1, vs1, rfl, z1, f1, st1⟩ := tup_stay f
      obtain ⟨p2, vs2, rfl, z2, f2, st2⟩ := tup_stay g
      refine ⟨_, _, _, _, rfl, .inr ⟨st1 .refl, st2 .refl, q _ _ _ _ _ w1 k1 ?_ s1⟩⟩
      exact wk_zip f1 f2 z1 (fun H' O' i s h => ⟨_, _, st1 s, st2 s, h⟩) (fun H' O' i x y s hx hy => ⟨_, _, x, y, st1 s, st2 s, hx, hy⟩) fun H' O' i v H2 s ⟨T, x, y, e1, e2, e3, e4, e5⟩ => ⟨T, x, y, e1, e2, e3, e4 _ (st1 s), e5 _ (st2 s)⟩
/-- enumerate of a list -/
theorem enumL_len : ∀ {xs : List D} {i : Nat}, (enumL i xs).length = xs.length
  | [], _ => rfl
  | x :: r, i => by simp only [enumL, List.length_cons, enumL_len]
theorem enumL_get : ∀ {xs : List D} {j i : Nat} {x : D}, xs[i]? = some x → (enumL j xs)[i]? = some (.tuple [.int ((j + i : Nat)), x])
  | [], _, _, _, h => by simp at h
  | y :: r, j, 0, x, h => by simp at h; subst h; simp [enumL]
  | y :: r, j, i + 1, x, h => by
    simp at h
    have := enumL_get (j := j + 1) h
    simp only [enumL, List.getElem?_cons_succ, this]
    congr 5; omega
theorem wk_enum {H : Hp} {O : Addr → Prop} {J : It} {vs : List V} {ds : List D} (fz : FzL C.K H O vs ds) (zv : vs.length ≤ sizeLine)
    (stop : ∀ H' O' i, Step H O H' O' → vs.length ≤ i → J.stop i H') (go : ∀ H' O' i x, Step H O H' O' → vs[i]? = some x → J.go i H')
    (yld : ∀ H' O' i v H2, Step H O H' O' → J.yld i H' v H2 → ∃ T x, v = .ref T ∧ H' T = none ∧ H2 = upd H' T (.tup [.int (i : Nat), x]) ∧ vs[i]? = some x) : Wk C true H O J (enumL 0 ds) := by
  have l1 := fz.length
  refine ⟨by rw [enumL_len, ← l1]; omega, fun H' O' i s hi => stop H' O' i s (by rw [enumL_len] at hi; omega), fun H' O' i s hi => ?_, fun H' O' i x H2 s y hi => ?_⟩
  · rw [enumL_len] at hi
    have h1 : i < vs.length := by omega
    exact go H' O' i vs[i] s (by simp [h1])
  · obtain ⟨T, x1, rfl, n, rfl, e1⟩ := yld H' O' i x H2 s y
    obtain ⟨d, hd, fd⟩ := fz.get e1
    have g := enumL_get (j := 0) hd
    rw [Nat.zero_add] at g
    exact ⟨_, g, .inr ⟨rfl, T, _, [.int (i : Nat), d], n, rfl, rfl, rfl, by show 2 ≤ sizeLine; decide, .cons (.int _) (.cons (fd.step s) .nil)⟩⟩
theorem so_enL (hK : X.K = C.K) (hp : plainE a = true) (hg : Gl X "enumerate") (hm : X.mg "enumerate" = none) (ha : PA X [a] (tA C wa)) : PI X (.Tuple elts kk tpos) (.Call (.Name "enumerate" p) [a] [] pos) (tI C .enL wa) := by
  refine (pi_enum hg hm ha (star_plain hp)).weak fun σ H R ⟨pn, env, O, k, K, W, q⟩ => ?_
  refine ⟨pn, env, O, _, K, W, fun ds e1 vs H1 O1 w1 k1 f1 s1 => ?_⟩
  rw [hK]
  have w1 : walks .enL (.tuple ds) fun ds => k ds e1 := w1
  match ds, w1, f1 with
  | [.list xs], w1, .cons f .nil =>
    cases f with
    | lst n1 e z f =>
      refine ⟨_, _, rfl, SqL.of e, q _ _ _ _ _ w1 k1 ?_ s1⟩
      have t1 : ∀ {H' O'}, Step H1 O1 H' O' → SqL C.K H' _ _ := fun s => seqL_of (C := C) n1 e s
      exact wk_enum f z (fun H' O' i s h => ⟨_, t1 s, h⟩) (fun H' O' i x s hx => ⟨_, x, t1 s, hx⟩) fun H' O' i v H2 s ⟨T, x, e1, e2, e3, e4⟩ => ⟨T, x, e1, e2, e3, e4 _ (t1 s)⟩
theorem so_rng3 (hp : plainE a = true) (hp2 : plainE b = true) (hp3 : plainE c = true) {tg : Expr} (hg : Gl X "range") (hm : X.mg "range" = none) (ha : PA X [a, b, c] (tA C wa)) : PI X tg (.Call (.Name "range" p) [a, b, c] [] pos) (tI C .rng3 wa) := by
  have hs1 : starEach [a, b, c] X.env = (false, eval a X.env) :: starEach [b, c] X.env := star_plain hp
  have hs2 : starEach [b, c] X.env = (false, eval b X.env) :: starEach [c] X.env := star_plain hp2
  have hs3 : starEach [c] X.env = (false, eval c X.env) :: starEach [] X.env := star_plain hp3
  refine (pi_range3 hg hm ha hs1 (by rw [hs2, hs3]; rfl)).weak fun σ H R ⟨pn, env, O, k, K, W, q⟩ => ?_
  refine ⟨pn, env, O, _, K, W, fun ds e1 vs H1 O1 w1 k1 f1 s1 => ?_⟩
  have w1 : walks .rng3 (.tuple ds) fun ds => k ds e1 := w1
  match ds, w1, f1 with
  | [.int n, .int m, .int (-1)], w1, .cons f (.cons g (.cons h .nil)) =>
    cases fz_int f
    cases fz_int g
    cases fz_int h
    obtain ⟨hz, w1⟩ := w1
    have b1 : -(2 ^ 62 : Int) ≤ n := by omega
    have b2 : n < (2 ^ 62 : Int) := by omega
    have b3 : -(2 ^ 62 : Int) ≤ m := by omega
    have b4 : m < (2 ^ 62 : Int) := by omega
    exact ⟨n, m, -1, _, rfl, RgC.neg b1 b2 b3 b4, q _ _ _ _ _ w1 k1 (wk_rngC (by omega)) s1⟩
end
end Ev
/-! EvEnum: enumerate of a tuple. -/
namespace Ev
open PySem PySem.Spec PyProof.Rows L2
open Sem (wp)
open AutoSeq1 (wpAny_loadPart')
set_option maxHeartbeats 1000000 in
/-- enumerate.__new__ of one thing that begins -/
theorem meets_enum1 {thing : Value} {ob : Obj} {Hx : Heap → Prop} (bg : Begins thing ob Hx) :
    Meets (Builtin.«enumerate.__new__» ⟨[.type "enumerate", thing], []⟩) (fun _ Rr st => Hx st.heap ∧
      Rr (.ok (.ret (.ref (st.heap.push ob).objs.size))) { st with heap := (st.heap.push ob).push { cls := .type "enumerate", data := .fields #[.none, .bool false, .ref st.heap.objs.size, rawInt 0, .none, .none] } }) :=
  .of_wp fun prog w A Rr st hh => by
    obtain ⟨hp, gg, dd, tk, os⟩ := st
    obtain ⟨h1, hh⟩ := hh
    have isSub := sub_enumerate
    have begin1 : ∀ {A' : Around} {E : Value → Shared → Prop} {Q : Value → Shared → Prop}, Q (.ref hp.objs.size) ⟨hp.push ob, gg, dd, tk, os⟩ → wpAny (model prog w) A' (pyIter thing) Q E ⟨hp, gg, dd, tk, os⟩ :=
      fun z => bg.iter prog w _ _ ⟨hp, gg, dd, tk, os⟩ _ h1 z
    wp_walk using begin1
    refine wpAny_stack_any fun frames => wpAny_pure ?_
    split
    · rename_i cc _ _ _ _ _
      cases (cc == Value.type "enumerate")
      · wp_walk using begin1
        exact ⟨_, rfl, hh⟩
      · wp_walk using begin1
        exact ⟨_, rfl, hh⟩
    · wp_walk using begin1
      exact ⟨_, rfl, hh⟩
theorem enum1 {prog : Program} {w : World} {A : Around} {E : Value → Shared → Prop} {st : Shared} {thing : Value} {ob : Obj} {Hx : Heap → Prop} {Q : Value → Shared → Prop} (bg : Begins thing ob Hx) (h1 : Hx st.heap)
    (h : ∀ h', IsEnum h' (st.heap.objs.size + 1) st.heap.objs.size 0 .none → h'.get? st.heap.objs.size = some ob → h'.objs.size = st.heap.objs.size + 2 → (∀ b o, st.heap.get? b = some o → h'.get? b = some o) → Q (.ref (st.heap.objs.size + 1)) { st with heap := h' }) :
    wpAny (model prog w) A (call (.type "enumerate") [thing]) Q E st := by
  refine callType_new F.called_enumerate (by decide) (F.typeCall_enumerate_1 _) (F.newCall_enumerate_1 _) (fun z => F.args_object_init_2 z _) F.entry_enumerate_new (meets_enum1 bg) ⟨h1, ?_⟩
  have sz : (st.heap.push ob).objs.size = st.heap.objs.size + 1 := Heap.size_push ..
  show _ ∧ _
  rw [sz]
  have en : IsEnum ((st.heap.push ob).push { cls := .type "enumerate", data := .fields #[.none, .bool false, .ref st.heap.objs.size, rawInt 0, .none, .none] }) (st.heap.objs.size + 1) st.heap.objs.size 0 .none := by
    have z := Heap.get?_push_size (st.heap.push ob) (o := { cls := .type "enumerate", data := .fields #[.none, .bool false, .ref st.heap.objs.size, rawInt 0, .none, .none] }) rfl
    rw [sz] at z
    exact z
  exact ⟨⟨_, en, rfl⟩, h _ en (Heap.get?_push_of_some _ (Heap.get?_push_size _ bg.free)) (by rw [Heap.size_push, sz]) fun b o x => Heap.get?_push_of_some _ (Heap.get?_push_of_some _ x)⟩
/-- the tuple at a, each item in a new pair -/
def ItEn (K : PySem.W.Frag) (a : Addr) : It :=
  ⟨fun i H => ∃ (xs : List V) (x : V), SqT K H a xs ∧ xs[i]? = some x, fun i H v H' => ∃ T x, v = .ref T ∧ H T = none ∧ H' = upd H T (.tup [.int (i : Nat), x]) ∧ ∀ xs, SqT K H a xs → xs[i]? = some x, fun i H => ∃ xs : List V, SqT K H a xs ∧ xs.length ≤ i⟩
theorem turn_en {P : Program} {w : World} {K : PySem.W.Frag} {elts : List Expr} {kk : Nat} {tpos : Pos} (a e it : Addr) :
    Turn P w K (.Tuple elts kk tpos) (ItEn K a) [e, it] e (fun i h => (∃ old, IsEnum h e it ((i : Nat) : Int) old) ∧ h.IsTupleIter it a i ∧ e ≠ it ∧ a ≠ it ∧ e ≠ a) where
  mem := List.mem_cons_self
  obj := fun i h st b hb => by
    obtain ⟨⟨old, he⟩, ⟨o, ho, hc, hd⟩, _⟩ := st
    rcases List.mem_cons.mp hb with rfl | hb
    · exact ⟨_, he, fun v z => nomatch z⟩
    · rw [List.mem_singleton.mp hb]; exact ⟨o, ho, fun v z => by rw [hd] at z; cases z⟩
  keep := fun i h h' st k => by
    obtain ⟨⟨old, he⟩, hi, r⟩ := st
    exact ⟨⟨old, k e List.mem_cons_self _ he⟩, hi.at fun o z => k it (by simp) o z, r⟩
  item := by
    intro X eP eW eK calm i pins s σ H E I foot tn go
    subst eP eW eK
    obtain ⟨⟨old, he⟩, hit, n1, n2, n3⟩ := tn
    obtain ⟨xs, x, sq, hx⟩ := go
    obtain ⟨its, rel, isT, zz⟩ := I.tuple sq
    obtain ⟨u, hu, ru⟩ := rel.get hx
    have le : e < s.heap.objs.size := Heap.lt_size he
    have li : it < s.heap.objs.size := by obtain ⟨_, z, _⟩ := hit; exact Heap.lt_size z
    have lt : i < its.toArray.size := by rw [List.size_toArray]; exact (List.getElem?_eq_some_iff.mp hu).1
    have hh : X.A.in1.handled = none := I.ok.hd calm
    refine wpAny_pyNext_enum_itemD (Draws.tuple hh it a n2 its.toArray) he ⟨hit, isT⟩ lt n1 (by simp [n1, n3]) fun y h' tk hy ho hst hT hsz hk => ?_
    have ey : y = u := by
      have z : its.toArray[i]? = some u := by simpa using hu
      rw [z] at hy; cases hy; rfl
    subst ey
    refine ⟨_, rfl, wpAny_letOwnedTupleGo_enum (s := { s with heap := h', toks := tk + 1 }) ho fun h'' he' sb => ?_⟩
    have hT2 : h''.get? s.heap.objs.size = some { cls := .type "tuple", data := .seq #[.int i tk, y] } := (sb.2 _ (Nat.ne_of_gt le)).trans hT
    have fresh : ObjOk X.prog X.w (upd H s.heap.objs.size (.tup [.int (i : Nat), x])) h'' s.heap.objs.size (.tup [.int (i : Nat), x]) :=
      ⟨by show 2 ≤ sizeLine; decide, [.int i tk, y], .cons ⟨_, rfl⟩ (.cons ru .nil), ⟨_, hT2, rfl, _, rfl⟩⟩
    have I1 : Inv X pins σ (upd H s.heap.objs.size (.tup [.int (i : Nat), x])) { s with heap := h'', toks := tk + 1 } :=
      I.turnedNew (ch := [e, it]) (fun b ob hb z => (sb.2 b (fun z2 => hb (by simp [z2]))).trans (hk b ob (fun z2 => hb (by simp [z2])) (fun z2 => hb (by simp [z2])) z)) foot (Nat.le_refl _) fresh
    refine ⟨.ref s.heap.objs.size, _, I1, rfl, ⟨_, x, rfl, I.hok.fresh (Nat.le_refl _), rfl, fun ys hys => by rw [I.tuple_inj hys sq]; exact hx⟩, ⟨⟨y, ?_⟩, hst.1.at fun o z => (sb.2 it (Ne.symm n1)).trans z, n1, n2, n3⟩, fun b hb => ?_⟩
    · rw [show ((i + 1 : Nat) : Int) = (i : Int) + 1 by omega]; exact he'
    · have lb : b < s.heap.objs.size := by
        rcases List.mem_cons.mp hb with rfl | hb
        · exact le
        · rw [List.mem_singleton.mp hb]; exact li
      rw [upd_ne (Nat.ne_of_lt lb)]
      exact (foot b hb).1
  done := by
    intro X eP eW eK calm i pins s σ H E I foot tn stp
    subst eP eW eK
    obtain ⟨⟨old, he⟩, hit, n1, n2, n3⟩ := tn
    obtain ⟨xs, sq, hx⟩ := stp
    obtain ⟨its, rel, isT, zz⟩ := I.tuple sq
    have hh : X.A.in1.handled = none := I.ok.hd calm
    have out : its.toArray[i]? = none := by
      rw [List.getElem?_toArray]
      exact List.getElem?_eq_none (by have := rel.length; omega)
    have D : Draws X.prog X.w X.A.in1 it [it, a] i (fun _ _ => True) (fun j h => j = i ∧ h.IsTupleIter it a i ∧ h.IsTuple a its.toArray) := by
      refine ⟨fun j h ⟨_, ⟨o, ho, _⟩, _⟩ => ⟨o, ho⟩, fun j h h' ⟨z, p, q⟩ k => ⟨z, p.at fun o y => k it (by simp) o y, q.at fun o y => k a (by simp) o y⟩, fun j s Q E lt ⟨z, _⟩ _ => absurd z (Nat.ne_of_lt lt), fun s Q E ⟨_, p, q⟩ r => ?_⟩
      exact wpAny_nextOf_tuple_end hh p q out r
    obtain ⟨g0, g1, g2, g3, g4, g5⟩ := foot it (by simp)
    exact wpAny_pyNext_enum_endD D he ⟨rfl, hit, isT⟩ fun h' eb => ⟨rfl, I.turned (t' := s.toks) (fun b o hb z => eb b o hb z) g0 g1 g3 g4 g5⟩
  self := fun A i s Q E tn h => by
    obtain ⟨⟨_, he⟩, _⟩ := tn
    exact wpAny_pyIter_enum he h
def iEnT (K : PySem.W.Frag) (ta : TA) : TI := fun σ H R => ta σ H fun vs H1 => ∃ a xs, vs = [.ref a] ∧ SqT K H1 a xs ∧ R (ItEn K a) H1
theorem pi_enT {X : Cx} {e : Expr} {ta : TA} {p pos tpos : Pos} {elts : List Expr} {kk : Nat} (hg : Gl X "enumerate") (hm : X.mg "enumerate" = none) (ha : PA X [e] ta) (hs : starEach [e] X.env = [(false, eval e X.env)]) :
    PI X (.Tuple elts kk tpos) (.Call (.Name "enumerate" p) [e] [] pos) (iEnT X.K ta) := by
  refine ⟨fun pp st σ H R I hw => ?_⟩
  refine Call_ (ld_blt I hg hm boot_enumerate (PyProof.Rows.callWith_type1 (thn (ha.run pos pp st σ H _ I hw) fun us s1 ⟨vs, H1, I1, r1, q1⟩ => ?_) hs rfl))
  obtain ⟨a, xs, ev, sq, q⟩ := q1
  subst ev
  cases r1 with
  | cons r rr =>
    cases rr
    cases r
    obtain ⟨its, rel, isT, zz⟩ := I1.tuple sq
    have la : a < s1.heap.objs.size := isT.lt
    refine enum1 (begins_tuple a its.toArray) isT fun h' he hit hsz hk => wpAny_pyIter_enum he ?_
    have I2 : Inv X pp σ H1 { s1 with heap := h' } := I1.kept (t' := s1.toks) hk
    refine ⟨_, [s1.heap.objs.size + 1, s1.heap.objs.size], _, _, H1, rfl, I2, turn_en a (s1.heap.objs.size + 1) s1.heap.objs.size, ⟨⟨.none, he⟩, ⟨_, hit, rfl, rfl⟩, Nat.succ_ne_self _, Nat.ne_of_lt la, Nat.ne_of_gt (Nat.lt_succ_of_lt la)⟩, fun b hb => ?_, q⟩
    have le : s1.heap.objs.size ≤ b := by
      rcases List.mem_cons.mp hb with rfl | hb
      · exact Nat.le_add_right _ _
      · rw [List.mem_singleton.mp hb]; exact Nat.le_refl _
    exact I1.fpOk le (I1.hok.fresh le)
section
variable {X : Cx} {C : Cc} {a : Expr} {pos p tpos : Pos} {wa : Wx} {elts : List Expr} {kk : Nat}
theorem so_enT (hK : X.K = C.K) (hp : plainE a = true) (hg : Gl X "enumerate") (hm : X.mg "enumerate" = none) (ha : PA X [a] (tA C wa)) : PI X (.Tuple elts kk tpos) (.Call (.Name "enumerate" p) [a] [] pos) (tI C .enT wa) := by
  refine (pi_enT hg hm ha (star_plain hp)).weak fun σ H R ⟨pn, env, O, k, K, W, q⟩ => ?_
  refine ⟨pn, env, O, _, K, W, fun ds e1 vs H1 O1 w1 k1 f1 s1 => ?_⟩
  rw [hK]
  have w1 : walks .enT (.tuple ds) fun ds => k ds e1 := w1
  match ds, w1, f1 with
  | [.tuple xs], w1, .cons f .nil =>
    obtain ⟨p1, vs1, rfl, z1, f1, st1⟩ := tup_stay f
    refine ⟨_, _, rfl, st1 .refl, q _ _ _ _ _ w1 k1 ?_ s1⟩
    exact wk_enum f1 z1 (fun H' O' i s h => ⟨_, st1 s, h⟩) (fun H' O' i x s hx => ⟨_, x, st1 s, hx⟩) fun H' O' i v H2 s ⟨T, x, e1, e2, e3, e4⟩ => ⟨T, x, e1, e2, e3, e4 _ (st1 s)⟩
end
end Ev
/-! EvChk: is a text the written form of some reified expression? And then: the machine does what the data says. -/
namespace Ev
open PySem PySem.Spec PyProof.Rows L2

/-- the defs by number: their names, does the source come first; is gcd there -/
structure Tn where
  nm : Nat → Option (Str × Bool)
  gcd : Bool
def visC (sc : Scope) (x : Str) : Bool := match sc.names.lookup x with | some .local => true | some .cell => true | some .free => true | _ => false
def slotC (N : List Str) (sc : Scope) (i : Nat) (x : Str) : Bool := decide (N[i]? = some x) && visC sc x && !(x == ("__debug__" : Str)) && !(x == ("__classdict__" : Str))
def glC (sc : Scope) (x : Str) : Bool := match sc.names.lookup x with | some .globalImplicit => true | _ => false
def constC : D → Const → Bool
  | .none, .none => true
  | .bool b, .bool c => b == c
  | .int i, .int j => i == j
  | .str x, .str y => decide (x = y)
  | _, _ => false
def ixPlain : Expr → Bool
  | .Slice .. => false
  | _ => true
def tailB (op : BoolOp) (y : Expr) (r : List Expr) (pos : Pos) : Expr := match r with | [] => y | _ :: _ => .BoolOp op (y :: r) pos
def b1N : B1 → String
  | .len => "len" | .lenD => "len" | .tupL => "tuple" | .tupT => "tuple" | .lstQ => "list" | .intI => "int" | .intB => "int" | .abs => "abs" | .repr => "repr" | .all => "all" | .sum => "sum" | .maxL => "max" | .minL => "min"
  | .isT => "isinstance" | .isI => "isinstance" | .isB => "isinstance" | .isS => "isinstance" | .sortI => "sorted" | .sortD => "sorted" | .sumT => "sum" | .maxT => "max" | .minT => "min" | .dictL => "dict"
def isaN : B1 → Option String
  | .isT => some "tuple" | .isI => some "int" | .isB => some "bool" | .isS => some "str"
  | _ => none
/-- the built-ins that are served -/
def b1C : B1 → Bool
  | .lenD => false | .dictL => false | .isT => false | .isI => false | .isB => false | .isS => false
  | _ => true
def b2N : B2 → String
  | .max2 => "max" | .min2 => "min" | .gcd => "gcd" | .comb => "comb" | .indexL => "index" | .indexT => "index"
def fnC (l : List (Str × NameKind)) (x : Str) : Bool := l.lookup x == some .cell
/-- targets: N the names, sc the scope, cl: the names whose cells are this block's -/
def chkG (N : List Str) (sc : Scope) (cl : Str → Bool) : Tg → (Expr ⊕ List Expr) → Bool
  | .s i => fun x => match x with
    | .inl (.Name y _) => decide (N[i]? = some y) && (match sc.names.lookup y with | some .local => true | some .cell => cl y | _ => false)
    | _ => false
  | .nil => fun x => match x with
    | .inr [] => true
    | _ => false
  | .cons a b => fun x => match x with
    | .inr (e :: es) => plainE e && chkG N sc cl a (.inl e) && chkG N sc cl b (.inr es)
    | _ => false
  | .t a => fun x => match x with
    | .inl (.Tuple es _ _) => isTgs a && chkG N sc cl a (.inr es)
    | _ => false
/-- keys and values of a display, by turns -/
def altE : List (Option Expr) → List Expr → List Expr
  | some k :: ks, v :: vs => k :: v :: altE ks vs
  | _, _ => []
def notCall : Expr → Bool
  | .Call .. => false
  | _ => true
def isInOp : Bool → CmpOp → Bool
  | true, .NotIn => true
  | false, .In => true
  | _, _ => false
/-- a written step -/
def stepC (st : Int) : Expr → Bool
  | .UnaryOp .USub (.Constant (.int c) _ _) _ => decide (st = -c) && decide (0 < c)
  | .Constant (.int c) _ _ => decide (st = c) && decide (1 < c)
  | _ => false
def isTupE : Expr → Bool
  | .Tuple .. => true
  | _ => false
def notSet : Expr → Bool
  | .Set .. => false
  | _ => true
def isCT : Ex → Bool
  | .k (.bool true) => true
  | _ => false

def chk (T : Tn) (N : List Str) : Ex → Bool → Scope → (Expr ⊕ List Expr) → Bool
  | .k d => fun _ _ x => match x with
    | .inl (.Constant c _ _) => constC d c
    | _ => false
  | .v i => fun _ sc x => match x with
    | .inl (.Name y _) => slotC N sc i y
    | _ => false
  | .mv i => fun _ sc x => match x with
    | .inl (.Name y _) => slotC N sc i y
    | _ => false
  | .g _ _ => fun _ _ _ => false
  | .op o a b => fun _ sc x => match x with
    | .inl (.BinOp l op r _) => opOk o op && chk T N a false sc (.inl l) && chk T N b false sc (.inl r)
    | _ => false
  | .neg a => fun _ sc x => match x with
    | .inl (.UnaryOp .USub e _) => chk T N a false sc (.inl e)
    | _ => false
  | .cmp c a b => fun _ sc x => match x with
    | .inl (.Compare l [op] [r] _) => copOk c op && !behindInMarks op r && chk T N a false sc (.inl l) && chk T N b false sc (.inl r)
    | _ => false
  | .ch3 _ _ _ _ _ _ _ => fun _ _ _ => false
  | .ch2 c d a b e => fun _ sc x => match x with
    | .inl (.Compare l [op, op'] [r, s] _) => copOk c op && copOk d op' && !lastMarks [op, op'] [r, s] && chk T N a false sc (.inl l) && chk T N b false sc (.inl r) && chk T N e false sc (.inl s)
    | _ => false
  | .isN a => fun _ sc x => match x with
    | .inl (.Compare l [.Is] [.Constant .none _ _] _) => chk T N a false sc (.inl l)
    | _ => false
  | .notN a => fun _ sc x => match x with
    | .inl (.Compare l [.IsNot] [.Constant .none _ _] _) => chk T N a false sc (.inl l)
    | _ => false
  | .isB b a => fun _ sc x => match x with
    | .inl (.Compare l [.Is] [.Constant (.bool c) _ _] _) => b == c && chk T N a false sc (.inl l)
    | _ => false
  | .notB b a => fun _ sc x => match x with
    | .inl (.Compare l [.IsNot] [.Constant (.bool c) _ _] _) => b == c && chk T N a false sc (.inl l)
    | _ => false
  | .and a b => fun m sc x => match x with
    | .inl (.BoolOp .And (e :: y :: r) pos) => chk T N a m sc (.inl e) && chk T N b m sc (.inl (tailB .And y r pos))
    | _ => false
  | .or a b => fun m sc x => match x with
    | .inl (.BoolOp .Or (e :: y :: r) pos) => chk T N a m sc (.inl e) && chk T N b m sc (.inl (tailB .Or y r pos))
    | _ => false
  | .not a => fun m sc x => match x with
    | .inl (.UnaryOp .Not e _) => chk T N a m sc (.inl e)
    | _ => false
  | .ite t a b => fun m sc x => match x with
    | .inl (.IfExp c e f _) => !m && chk T N t true sc (.inl c) && chk T N a false sc (.inl e) && chk T N b false sc (.inl f)
    | _ => false
  | .nil => fun _ _ x => match x with
    | .inr [] => true
    | _ => false
  | .cons a b => fun _ sc x => match x with
    | .inr (e :: es) => plainE e && chk T N a false sc (.inl e) && chk T N b false sc (.inr es)
    | _ => false
  | .star a b => fun _ sc x => match x with
    | .inr (.Starred e _ :: es) => chk T N a false sc (.inl e) && chk T N b false sc (.inr es)
    | _ => false
  | .tup a => fun _ sc x => match x with
    | .inl (.Tuple es _ _) => chk T N a false sc (.inr es)
    | _ => false
  | .lst a => fun _ sc x => match x with
    | .inl (.List es _) => chk T N a false sc (.inr es)
    | _ => false
  | .dic a => fun _ sc x => match x with
    | .inl (.Dict keys values _) => decide (keys.length = values.length) && decide (keys.length ≤ 15) && keys.all (·.isSome) && chk T N a false sc (.inr (altE keys values)) && (altE keys values).all plainE
    | _ => false
  | .idx a b => fun _ sc x => match x with
    | .inl (.Subscript e s _) => ixPlain s && chk T N a false sc (.inl e) && chk T N b false sc (.inl s)
    | _ => false
  | .dget a b => fun _ sc x => match x with
    | .inl (.Subscript e s _) => ixPlain s && chk T N a false sc (.inl e) && chk T N b false sc (.inl s)
    | _ => false
  | .dgetd a b e => fun _ sc x => match x with
    | .inl (.Call (.Attribute o m apos) [y, z] [] pos) => decide (m = ("get" : Str)) && notCall o && (apos.endLine == pos.line) && plainE y && plainE z && chk T N a false sc (.inl o) && chk T N b false sc (.inl y) && chk T N e false sc (.inl z)
    | _ => false
  | .dIn n a b => fun _ sc x => match x with
    | .inl (.Compare l [op] [r] _) => isInOp n op && !behindInMarks op r && chk T N a false sc (.inl l) && chk T N b false sc (.inl r)
    | _ => false
  | .slc l h a lo hi => fun _ sc x => match x with
    | .inl (.Subscript e (.Slice p q none _) _) => chk T N a false sc (.inl e) &&
        (match p with | none => !l && chk T N lo false sc (.inr []) | some p => l && chk T N lo false sc (.inl p)) &&
        (match q with | none => !h && chk T N hi false sc (.inr []) | some q => h && chk T N hi false sc (.inl q))
    | _ => false
  | .revL a => fun _ sc x => match x with
    | .inl (.Subscript e (.Slice none none (some (.UnaryOp .USub (.Constant (.int 1) _ _) _)) _) _) => chk T N a false sc (.inl e)
    | _ => false
  | .slcT l st a lo => fun _ sc x => match x with
    | .inl (.Subscript e (.Slice p none (some stE) _) _) => stepC st stE && chk T N a false sc (.inl e) &&
        (match p with | none => !l && chk T N lo false sc (.inr []) | some p => l && chk T N lo false sc (.inl p))
    | _ => false
  | .b1 f a => fun _ sc x => match x with
    | .inl (.Call (.Name y _) [e] [] _) => b1C f && decide (y = Str.ofString (b1N f)) && glC sc y && plainE e && chk T N a false sc (.inl e)
    | .inl (.Call (.Name y _) [e, .Name z _] [] _) => (match isaN f with | some t => decide (z = Str.ofString t) | none => false) && decide (y = Str.ofString "isinstance") && glC sc y && glC sc z && plainE e && chk T N a false sc (.inl e)
    | _ => false
  | .b2 f a b => fun _ sc x => match x with
    | .inl (.Call (.Attribute o m apos) [e] [] pos) => (match f with | .indexL => true | .indexT => true | _ => false) && decide (m = ("index" : Str)) && notCall o && (apos.endLine == pos.line) && plainE e && chk T N a false sc (.inl o) && chk T N b false sc (.inl e)
    | .inl (.Call (.Name y _) [e, e'] [] _) => (match f with | .max2 => true | .min2 => true | .gcd => T.gcd | _ => false) && decide (y = Str.ofString (b2N f)) && glC sc y && plainE e && plainE e' && chk T N a false sc (.inl e) && chk T N b false sc (.inl e')
    | _ => false
  | .lrng l n a => fun _ sc x => match x with
    | .inl (.Call (.Name y _) [.Call (.Name z _) (e :: es) [] _] [] _) => decide (y = if l = true then ("list" : Str) else ("tuple" : Str)) && decide (z = ("range" : Str)) && glC sc y && glC sc z && (e :: es).all plainE && chk T N a false sc (.inr (e :: es))
    | _ => false
  | .pop0 i => fun _ sc x => match x with
    | .inl (.Call (.Attribute (.Name y _) m apos) [] [] pos) => decide (m = ("pop" : Str)) && slotC N sc i y && (apos.endLine == pos.line)
    | _ => false
  | .pop1 i a => fun _ sc x => match x with
    | .inl (.Call (.Attribute (.Name y _) m apos) [e] [] pos) => decide (m = ("pop" : Str)) && slotC N sc i y && (apos.endLine == pos.line) && plainE e && chk T N a false sc (.inl e)
    | _ => false
  | .call f s a => fun _ sc x => match s with
    | none => (match x with
      | .inl (.Call (.Name y _) (e :: es) [] _) => decide (T.nm f = some (y, false)) && glC sc y && (e :: es).all plainE && chk T N a false sc (.inr (e :: es))
      | _ => false)
    | some i => (match x with
      | .inl (.Call (.Name y _) (.Name z _ :: es) [] _) => decide (T.nm f = some (y, true)) && glC sc y && slotC N sc i z && es.all plainE && chk T N a false sc (.inr es)
      | _ => false)
  | .comp own ik it tg t e => fun _ sc x => match x with
    | .inl (.ListComp elt [⟨tgE, iter, ifs, 0⟩] scope _) =>
        blkC N sc scope (own.map fun i => (N.getD i Str.empty, i)) && (tgS tg).all (fun j => decide (j ∈ own)) && (!rawI ik || isTt tg) && notSet iter && chkG N (relS scope sc) (fnC scope.names) tg (.inl tgE) &&
        (match ik with
          | .lst => chk T N it false sc (.inl iter)
          | .tup => chk T N it false sc (.inl iter)
          | .rng1 => (match iter with | .Call (.Name y _) [a] [] _ => decide (y = ("range" : Str)) && glC sc y && plainE a && chk T N it false sc (.inr [a]) | _ => false)
          | .rng2 => (match iter with | .Call (.Name y _) [a, b] [] _ => decide (y = ("range" : Str)) && glC sc y && plainE a && plainE b && chk T N it false sc (.inr [a, b]) | _ => false)
          | .rng3 => (match iter with | .Call (.Name y _) [a, b, c] [] _ => decide (y = ("range" : Str)) && glC sc y && plainE a && plainE b && plainE c && chk T N it false sc (.inr [a, b, c]) | _ => false)
          | .zipL => (match iter with | .Call (.Name y _) [a, b] [] _ => isTupE tgE && decide (y = ("zip" : Str)) && glC sc y && plainE a && plainE b && chk T N it false sc (.inr [a, b]) | _ => false)
          | .zipT => (match iter with | .Call (.Name y _) [a, b] [] _ => isTupE tgE && decide (y = ("zip" : Str)) && glC sc y && plainE a && plainE b && chk T N it false sc (.inr [a, b]) | _ => false)
          | .enL => (match iter with | .Call (.Name y _) [a] [] _ => isTupE tgE && decide (y = ("enumerate" : Str)) && glC sc y && plainE a && chk T N it false sc (.inr [a]) | _ => false)
          | .enT => (match iter with | .Call (.Name y _) [a] [] _ => isTupE tgE && decide (y = ("enumerate" : Str)) && glC sc y && plainE a && chk T N it false sc (.inr [a]) | _ => false)
          | _ => false) &&
        (match ifs with
          | [] => isCT t
          | [c] => chk T N t true (relS scope sc) (.inl c)
          | _ => false) && chk T N e false (relS scope sc) (.inl elt)
    | _ => false
end Ev
/-! EvSound: a text that is the written form of a reified expression does what its data says. -/
namespace Ev
open PySem PySem.Spec PyProof.Rows L2

/-- the built-ins by name -/
def bltNames : List String := ["len", "tuple", "list", "int", "abs", "repr", "all", "sum", "max", "min", "isinstance", "sorted", "range", "str", "bool", "enumerate", "zip"]
structure Gd (T : Tn) (N : List Str) (F : Fns) (C : Cc) (X : Cx) (sc : Scope) (cl : Str → Bool) : Prop where
  hN : X.N = N
  nd : N.Nodup
  sc : X.env.scope = sc
  calm : X.calm = true
  K : X.K = C.K
  room : ∃ k, Room k X.A
  dv : Dvs X
  gd : X.A.guards = some []
  fn : ∀ y, cl y = true → X.fn y = true
  mg : ∀ x ∈ bltNames, X.mg (Str.ofString x) = none
  gcd : T.gcd = true → X.mg "gcd" = some (.builtin "math.gcd")
  calls : ∀ f x s, T.nm f = some (x, s) → ∃ k n, Room k X.A ∧ Cal X k x n s (F f)
theorem Dvs.blk {X : Cx} (g : Dvs X) {s : Shared} {H : Hp} {scope : Scope} {env : Env} {fp : List Addr} : Dvs (X.blk s H scope env fp) := ⟨g.seer, g.tree, g.fr, g.dp⟩
section
variable {T : Tn} {N : List Str} {F : Fns} {C : Cc} {X : Cx} {sc : Scope} {cl : Str → Bool}
theorem Gd.blk (g : Gd T N F C X sc cl) (s : Shared) (H : Hp) (scope : Scope) (D : Addr) (l : List (Str × Addr)) (fp : List Addr) :
    Gd T N F C (X.blk s H scope (compEnvC scope l D X.env) fp) (relS scope sc) (fnC scope.names) := by
  refine ⟨g.hN, g.nd, ?_, g.calm, g.K, g.room, g.dv.blk, g.gd, fun y h => h, g.mg, g.gcd, fun f x s h => ?_⟩
  · rw [← g.sc]; rfl
  · obtain ⟨k, n, r, c⟩ := g.calls f x s h
    exact ⟨k, n, r, c.ex, c.dbg, c.ar⟩
theorem visC_ok {x : Str} (h : visC sc x = true) : Vis sc x := by
  unfold visC at h
  split at h
  · exact .inl (by assumption)
  · exact .inr (.inl (by assumption))
  · exact .inr (.inr (by assumption))
  · cases h
theorem slotC_ok (g : Gd T N F C X sc cl) {i : Nat} {x : Str} (h : slotC N sc i x = true) : X.N[i]? = some x ∧ Vis X.env.scope x ∧ (x == ("__debug__" : Str)) = false ∧ (x == ("__classdict__" : Str)) = false := by
  unfold slotC at h
  simp only [Bool.and_eq_true, decide_eq_true_eq, Bool.not_eq_true'] at h
  obtain ⟨⟨⟨h1, h2⟩, h3⟩, h4⟩ := h
  exact ⟨by rw [g.hN]; exact h1, by rw [g.sc]; exact visC_ok h2, h3, h4⟩
theorem glC_ok (g : Gd T N F C X sc cl) {x : Str} (h : glC sc x = true) : Gl X x := by
  unfold glC at h
  show X.env.scope.names.lookup x = _
  rw [g.sc]
  split at h
  · assumption
  · cases h
theorem constC_ok {d : D} {c : Const} {j pos} (h : constC d c = true) (F : Fns) : PE X (.Constant c j pos) (tE C (w F (.k d))) := by
  cases d <;> cases c <;> first
    | (cases h; done)
    | exact so_const pe_non (fun _ _ _ => .non) F
    | skip
  · rename_i b b'; have : b = b' := by simpa [constC] using h
    subst this; exact so_const pe_bl (fun _ _ _ => .bl _) F
  · rename_i b b'; have : b = b' := by simpa [constC] using h
    subst this; exact so_const pe_int (fun _ _ _ => .int _) F
  · rename_i b b'; have : b = b' := by simpa [constC] using h
    subst this; exact so_const pe_str (fun _ _ _ => .str _) F
theorem ixPlain_ok {b : Expr} (h : ixPlain b = true) : PlainIxT b := by
  cases b <;> first
    | (cases h; done)
    | exact fun _ _ => rfl
end
/-- targets -/
theorem tg_sound {T : Tn} {N : List Str} {F : Fns} {C : Cc} : ∀ (tg : Tg), (∀ (X : Cx) (sc : Scope) (cl : Str → Bool), Gd T N F C X sc cl → ∀ e, chkG N sc cl tg (.inl e) = true → PG X e (tG C tg)) ∧
    (∀ (X : Cx) (sc : Scope) (cl : Str → Bool), Gd T N F C X sc cl → ∀ es, chkG N sc cl tg (.inr es) = true → PGs X es (tGs C tg) ∧ (isTgs tg = true → (assignEach es X.env).length = tgLen tg ∧ (assignEach es X.env).findIdx? (·.1) = none)) := by
  intro tg
  induction tg with
  | s i =>
    refine ⟨fun X sc cl g e h => ?_, fun X sc cl g es h => (by cases h)⟩
    cases e <;> first | (cases h; done) | skip
    rename_i y p
    simp only [chkG, Bool.and_eq_true, decide_eq_true_eq] at h
    obtain ⟨h1, h2⟩ := h
    refine so_tgN (by rw [g.hN]; exact g.nd) (by rw [g.hN]; exact h1) ?_ ?_
    · show Loc X.env.scope y
      rw [g.sc]
      split at h2
      · exact .inl (by assumption)
      · exact .inr (by assumption)
      · cases h2
    · show X.fn y = true ∨ X.env.scope.names.lookup y = some .local
      rw [g.sc]
      split at h2
      · exact .inr (by assumption)
      · exact .inl (g.fn _ h2)
      · cases h2
  | nil =>
    refine ⟨fun X sc cl g e h => (by cases h), fun X sc cl g es h => ?_⟩
    cases es with
    | nil => exact ⟨so_tgs_nil, fun _ => ⟨rfl, rfl⟩⟩
    | cons a b => cases h
  | cons a b iha ihb =>
    refine ⟨fun X sc cl g e h => (by cases h), fun X sc cl g es h => ?_⟩
    cases es with
    | nil => cases h
    | cons e es =>
      simp only [chkG, Bool.and_eq_true] at h
      obtain ⟨⟨hp, h1⟩, h2⟩ := h
      have hs : assignEach (e :: es) X.env = (false, assign e X.env) :: assignEach es X.env := by
        cases e <;> first | rfl | cases hp
      obtain ⟨hb, hl⟩ := ihb.2 X sc cl g es h2
      refine ⟨so_tgs_cons (iha.1 X sc cl g e h1) hb (by rw [hs]; rfl), fun ht => ?_⟩
      obtain ⟨l1, l2⟩ := hl ht
      rw [hs]
      refine ⟨by simp [tgLen, l1], ?_⟩
      rw [List.findIdx?_cons]
      simp [l2]
  | t a iha =>
    refine ⟨fun X sc cl g e h => ?_, fun X sc cl g es h => (by cases h)⟩
    cases e <;> first | (cases h; done) | skip
    rename_i es n p
    simp only [chkG, Bool.and_eq_true] at h
    obtain ⟨h1, h2⟩ := h
    obtain ⟨hb, hl⟩ := iha.2 X sc cl g es h2
    obtain ⟨l1, l2⟩ := hl h1
    exact so_tgT g.calm g.K hb h1 l1 l2
def plainT : Expr → Bool
  | .UnaryOp .Not _ _ => false
  | .BoolOp .. => false
  | .IfExp .. => false
  | .Compare .. => false
  | _ => true
theorem plainT_ok {e : Expr} {env : Env} (h : plainT e = true) : ∀ whole, isTrue e env whole = (do let v ← whole; standAt e.pos; holding [v] (truthy v)) := by
  intro wh
  cases e with
  | UnaryOp op x p => cases op <;> first | rfl | cases h
  | _ => first | rfl | cases h
structure Snd (T : Tn) (N : List Str) (F : Fns) (C : Cc) (e : Ex) : Prop where
  v : ∀ (X : Cx) (sc : Scope) (cl : Str → Bool), Gd T N F C X sc cl → ∀ x, chk T N e false sc (.inl x) = true → PE X x (tE C (w F e))
  t : ∀ (X : Cx) (sc : Scope) (cl : Str → Bool), Gd T N F C X sc cl → ∀ x, chk T N e true sc (.inl x) = true → PT X x (tT C (w F e))
  a : ∀ (X : Cx) (sc : Scope) (cl : Str → Bool), Gd T N F C X sc cl → ∀ m es, chk T N e m sc (.inr es) = true → PA X es (tA C (w F e))
  p : ∀ (X : Cx) (sc : Scope) (cl : Str → Bool), Gd T N F C X sc cl → ∀ op es pos, chk T N e true sc (.inl (.BoolOp op es pos)) = true → PW X (.BoolOp op es pos) (tT C (w F e))
section
variable {T : Tn} {N : List Str} {F : Fns} {C : Cc} {e : Ex}
theorem Snd.val (h : ∀ (X : Cx) (sc : Scope) (cl : Str → Bool), Gd T N F C X sc cl → ∀ m x, chk T N e m sc (.inl x) = true → PE X x (tE C (w F e)) ∧ plainT x = true) (hr : ∀ m sc es, chk T N e m sc (.inr es) = true → False) : Snd T N F C e := by
  refine ⟨fun X sc cl g x q => (h X sc cl g _ x q).1, fun X sc cl g x q => ?_, fun X sc cl g m es q => (hr m sc es q).elim, fun X sc cl g op es pos q => ?_⟩
  · obtain ⟨h1, h2⟩ := h X sc cl g _ x q
    exact so_testE h1 (plainT_ok h2)
  · obtain ⟨h1, h2⟩ := h X sc cl g _ _ q
    cases h2
theorem Snd.bot (hl : ∀ m sc x, chk T N e m sc (.inl x) = true → False) (hr : ∀ m sc es, chk T N e m sc (.inr es) = true → False) : Snd T N F C e :=
  .val (fun X sc cl g m x q => (hl m sc x q).elim) hr
theorem Snd.args (hl : ∀ m sc x, chk T N e m sc (.inl x) = true → False) (h : ∀ (X : Cx) (sc : Scope) (cl : Str → Bool), Gd T N F C X sc cl → ∀ m es, chk T N e m sc (.inr es) = true → PA X es (tA C (w F e))) : Snd T N F C e :=
  ⟨fun X sc cl g x q => (hl _ sc x q).elim, fun X sc cl g x q => (hl _ sc x q).elim, h, fun X sc cl g op es pos q => (hl _ sc _ q).elim⟩
/-- the two ways of a comparison -/
theorem Snd.cmp (h : ∀ (X : Cx) (sc : Scope) (cl : Str → Bool), Gd T N F C X sc cl → ∀ m x, chk T N e m sc (.inl x) = true → PE X x (tE C (w F e)) ∧ PT X x (tT C (w F e)) ∧ ∀ op es pos, x ≠ .BoolOp op es pos) (hr : ∀ m sc es, chk T N e m sc (.inr es) = true → False) : Snd T N F C e :=
  ⟨fun X sc cl g x q => (h X sc cl g _ x q).1, fun X sc cl g x q => (h X sc cl g _ x q).2.1, fun X sc cl g m es q => (hr m sc es q).elim, fun X sc cl g op es pos q => ((h X sc cl g _ _ q).2.2 op es pos rfl).elim⟩

theorem sn_k (d : D) : Snd T N F C (.k d) := by
  refine .val (fun X sc cl g m x h => ?_) (fun _ _ _ h => by cases h)
  cases x <;> first | (cases h; done) | skip
  exact ⟨constC_ok h F, rfl⟩
theorem sn_v (i : Nat) : Snd T N F C (.v i) := by
  refine .val (fun X sc cl g m x h => ?_) (fun _ _ _ h => by cases h)
  cases x <;> first | (cases h; done) | skip
  obtain ⟨h1, h2, h3, h4⟩ := slotC_ok g h
  exact ⟨so_var h1 h2 h3 h4 F, rfl⟩
theorem sn_mv (i : Nat) : Snd T N F C (.mv i) := by
  refine .val (fun X sc cl g m x h => ?_) (fun _ _ _ h => by cases h)
  cases x <;> first | (cases h; done) | skip
  obtain ⟨h1, h2, h3, h4⟩ := slotC_ok g h
  exact ⟨so_mv h1 h2 h3 h4 F, rfl⟩
variable {a b c : Ex}
theorem sn_op {o : Bop} (ha : Snd T N F C a) (hb : Snd T N F C b) : Snd T N F C (.op o a b) := by
  refine .val (fun X sc cl g m x h => ?_) (fun _ _ _ h => by cases h)
  cases x <;> first | (cases h; done) | skip
  simp only [chk, Bool.and_eq_true] at h
  obtain ⟨r, ho, hr⟩ := bop_rule (X := X) (C := C) g.dv g.K h.1.1
  exact ⟨so_op ho (ha.v X sc cl g _ h.1.2) (hb.v X sc cl g _ h.2) hr, rfl⟩
theorem sn_neg (ha : Snd T N F C a) : Snd T N F C (.neg a) := by
  refine .val (fun X sc cl g m x h => ?_) (fun _ _ _ h => by cases h)
  cases x <;> first | (cases h; done) | skip
  rename_i op y p
  cases op <;> first | (cases h; done) | skip
  exact ⟨so_un un_neg (ha.v X sc cl g _ h), rfl⟩
theorem sn_cmp {o : Cop} (ha : Snd T N F C a) (hb : Snd T N F C b) : Snd T N F C (.cmp o a b) := by
  refine .cmp (fun X sc cl g m x h => ?_) (fun _ _ _ h => by cases h)
  cases x <;> first | (cases h; done) | skip
  rename_i l ops rs p
  match ops, rs, h with
  | [op], [r], h =>
    simp only [chk, Bool.and_eq_true, Bool.not_eq_true'] at h
    obtain ⟨⟨⟨h1, h2⟩, h3⟩, h4⟩ := h
    obtain ⟨k, hk⟩ := g.room
    obtain ⟨r, ho, hr⟩ := cop_rule (X := X) (C := C) g.K hk h1
    exact ⟨so_cmp ho h2 (ha.v X sc cl g _ h3) (hb.v X sc cl g _ h4) hr, so_cmpT ho h2 (ha.v X sc cl g _ h3) (hb.v X sc cl g _ h4) hr, fun _ _ _ q => by cases q⟩
theorem sn_ch2 {o o' : Cop} (ha : Snd T N F C a) (hb : Snd T N F C b) (hc : Snd T N F C c) : Snd T N F C (.ch2 o o' a b c) := by
  refine .cmp (fun X sc cl g m x h => ?_) (fun _ _ _ h => by cases h)
  cases x <;> first | (cases h; done) | skip
  rename_i l ops rs p
  match ops, rs, h with
  | [op, op'], [r, s], h =>
    simp only [chk, Bool.and_eq_true, Bool.not_eq_true'] at h
    obtain ⟨⟨⟨⟨⟨h1, h2⟩, h3⟩, h4⟩, h5⟩, h6⟩ := h
    obtain ⟨k, hk⟩ := g.room
    obtain ⟨r1, ho, hr⟩ := cop_rule (X := X) (C := C) g.K hk h1
    obtain ⟨r2, ho', hr'⟩ := cop_rule (X := X) (C := C) g.K hk h2
    exact ⟨so_chE ho ho' (ha.v X sc cl g _ h4) (hb.v X sc cl g _ h5) (hc.v X sc cl g _ h6) h3 hr hr', so_chT ho ho' (ha.v X sc cl g _ h4) (hb.v X sc cl g _ h5) (hc.v X sc cl g _ h6) h3 hr hr', fun _ _ _ q => by cases q⟩
theorem sn_isN (ha : Snd T N F C a) : Snd T N F C (.isN a) := by
  refine .cmp (fun X sc cl g m x h => ?_) (fun _ _ _ h => by cases h)
  unfold chk at h
  split at h
  · rename_i e; cases e
    exact ⟨so_isN (ha.v X sc cl g _ h), so_isNT (ha.v X sc cl g _ h), fun _ _ _ q => by cases q⟩
  · cases h
theorem sn_notN (ha : Snd T N F C a) : Snd T N F C (.notN a) := by
  refine .cmp (fun X sc cl g m x h => ?_) (fun _ _ _ h => by cases h)
  unfold chk at h
  split at h
  · rename_i e; cases e
    exact ⟨so_notN (ha.v X sc cl g _ h), so_notNT (ha.v X sc cl g _ h), fun _ _ _ q => by cases q⟩
  · cases h
theorem sn_isB {z : Bool} (ha : Snd T N F C a) : Snd T N F C (.isB z a) := by
  refine .cmp (fun X sc cl g m x h => ?_) (fun _ _ _ h => by cases h)
  unfold chk at h
  split at h
  · rename_i e; cases e
    simp only [Bool.and_eq_true, beq_iff_eq] at h
    obtain ⟨rfl, h⟩ := h
    exact ⟨so_isB (ha.v X sc cl g _ h), so_isBT (ha.v X sc cl g _ h), fun _ _ _ q => by cases q⟩
  · cases h
theorem sn_notB {z : Bool} (ha : Snd T N F C a) : Snd T N F C (.notB z a) := by
  refine .cmp (fun X sc cl g m x h => ?_) (fun _ _ _ h => by cases h)
  unfold chk at h
  split at h
  · rename_i e; cases e
    simp only [Bool.and_eq_true, beq_iff_eq] at h
    obtain ⟨rfl, h⟩ := h
    exact ⟨so_notB (ha.v X sc cl g _ h), so_notBT (ha.v X sc cl g _ h), fun _ _ _ q => by cases q⟩
  · cases h
theorem sn_and (ha : Snd T N F C a) (hb : Snd T N F C b) : Snd T N F C (.and a b) := by
  have pw : ∀ (X : Cx) (sc : Scope) (cl : Str → Bool), Gd T N F C X sc cl → ∀ x, chk T N (.and a b) true sc (.inl x) = true → PW X x (tT C (w F (.and a b))) := fun X sc cl g x h => by
    unfold chk at h
    split at h
    · rename_i e y r p hx; cases hx
      simp only [Bool.and_eq_true] at h
      refine so_andT (ha.t X sc cl g _ h.1) ?_
      cases r with
      | nil => exact pw_and1 (hb.t X sc cl g _ h.2)
      | cons z r => exact hb.p X sc cl g _ _ _ h.2
    · cases h
  refine ⟨fun X sc cl g x h => ?_, fun X sc cl g x h => (pw X sc cl g x h).pt, fun _ _ _ _ _ _ h => (by cases h), fun X sc cl g op es pos h => pw X sc cl g _ h⟩
  unfold chk at h
  split at h
  · rename_i e y r p hx; cases hx
    simp only [Bool.and_eq_true] at h
    refine so_andE (ha.v X sc cl g _ h.1) ?_
    cases r with
    | nil => exact pe_one (hb.v X sc cl g _ h.2)
    | cons z r => exact hb.v X sc cl g _ h.2
  · cases h
theorem sn_or (ha : Snd T N F C a) (hb : Snd T N F C b) : Snd T N F C (.or a b) := by
  have pw : ∀ (X : Cx) (sc : Scope) (cl : Str → Bool), Gd T N F C X sc cl → ∀ x, chk T N (.or a b) true sc (.inl x) = true → PW X x (tT C (w F (.or a b))) := fun X sc cl g x h => by
    unfold chk at h
    split at h
    · rename_i e y r p hx; cases hx
      simp only [Bool.and_eq_true] at h
      refine so_orT (ha.t X sc cl g _ h.1) ?_
      cases r with
      | nil => exact pw_or1 (hb.t X sc cl g _ h.2)
      | cons z r => exact hb.p X sc cl g _ _ _ h.2
    · cases h
  refine ⟨fun X sc cl g x h => ?_, fun X sc cl g x h => (pw X sc cl g x h).pt, fun _ _ _ _ _ _ h => (by cases h), fun X sc cl g op es pos h => pw X sc cl g _ h⟩
  unfold chk at h
  split at h
  · rename_i e y r p hx; cases hx
    simp only [Bool.and_eq_true] at h
    refine so_orE (ha.v X sc cl g _ h.1) ?_
    cases r with
    | nil => exact pe_one (hb.v X sc cl g _ h.2)
    | cons z r => exact hb.v X sc cl g _ h.2
  · cases h
theorem sn_not (ha : Snd T N F C a) : Snd T N F C (.not a) := by
  refine ⟨fun X sc cl g x h => ?_, fun X sc cl g x h => ?_, fun _ _ _ _ _ _ h => (by cases h), fun X sc cl g op es pos h => (by cases h)⟩
  · unfold chk at h
    split at h
    · rename_i e; cases e
      exact so_notE (ha.v X sc cl g _ h)
    · cases h
  · unfold chk at h
    split at h
    · rename_i e; cases e
      exact so_not (ha.t X sc cl g _ h)
    · cases h
theorem sn_ite (hc : Snd T N F C c) (ha : Snd T N F C a) (hb : Snd T N F C b) : Snd T N F C (.ite c a b) := by
  refine ⟨fun X sc cl g x h => ?_, fun X sc cl g x h => ?_, fun _ _ _ _ _ _ h => (by cases h), fun X sc cl g op es pos h => (by cases h)⟩
  · unfold chk at h
    split at h
    · rename_i e; cases e
      simp only [Bool.and_eq_true] at h
      exact so_ite (hc.t X sc cl g _ h.1.1.2) (ha.v X sc cl g _ h.1.2) (hb.v X sc cl g _ h.2)
    · cases h
  · unfold chk at h
    split at h
    · simp only [Bool.and_eq_true] at h
      cases h.1.1.1
    · cases h
theorem sn_nil : Snd T N F C .nil := by
  refine .args (fun _ _ _ h => by cases h) (fun X sc cl g m es h => ?_)
  cases es with
  | nil => exact so_nil F
  | cons _ _ => cases h
theorem sn_cons (ha : Snd T N F C a) (hb : Snd T N F C b) : Snd T N F C (.cons a b) := by
  refine .args (fun _ _ _ h => by cases h) (fun X sc cl g m es h => ?_)
  cases es with
  | nil => cases h
  | cons e es =>
    simp only [chk, Bool.and_eq_true] at h
    exact so_cons (ha.v X sc cl g _ h.1.2) (hb.a X sc cl g _ _ h.2) (star_plain h.1.1)
theorem sn_star (ha : Snd T N F C a) (hb : Snd T N F C b) : Snd T N F C (.star a b) := by
  refine .args (fun _ _ _ h => by cases h) (fun X sc cl g m es h => ?_)
  unfold chk at h
  split at h
  · rename_i e; cases e
    simp only [Bool.and_eq_true] at h
    exact so_star g.K (ha.v X sc cl g _ h.1) (hb.a X sc cl g _ _ h.2)
  · cases h
theorem sn_tup (ha : Snd T N F C a) : Snd T N F C (.tup a) := by
  refine .val (fun X sc cl g m x h => ?_) (fun _ _ _ h => by cases h)
  cases x <;> first | (cases h; done) | skip
  exact ⟨so_tup (ha.a X sc cl g _ _ h), rfl⟩
theorem sn_lst (ha : Snd T N F C a) : Snd T N F C (.lst a) := by
  refine .val (fun X sc cl g m x h => ?_) (fun _ _ _ h => by cases h)
  cases x <;> first | (cases h; done) | skip
  exact ⟨so_lst (ha.a X sc cl g _ _ h), rfl⟩
theorem sn_idx (ha : Snd T N F C a) (hb : Snd T N F C b) : Snd T N F C (.idx a b) := by
  refine .val (fun X sc cl g m x h => ?_) (fun _ _ _ h => by cases h)
  cases x <;> first | (cases h; done) | skip
  simp only [chk, Bool.and_eq_true] at h
  exact ⟨so_idx ix_seq (ixPlain_ok h.1.1) (ha.v X sc cl g _ h.1.2) (hb.v X sc cl g _ h.2) (fun _ _ _ _ _ _ _ _ a b c d => by rw [g.K]; exact v_idx a b c d), rfl⟩
theorem sn_slc {l h : Bool} {lo hi : Ex} (ha : Snd T N F C a) (hl : Snd T N F C lo) (hh : Snd T N F C hi) : Snd T N F C (.slc l h a lo hi) := by
  refine .val (fun X sc cl g m x h => ?_) (fun _ _ _ h => by cases h)
  unfold chk at h
  split at h
  · rename_i e p q _ _ hx; cases hx
    simp only [Bool.and_eq_true] at h
    obtain ⟨⟨h1, h2⟩, h3⟩ := h
    refine ⟨so_slc (wl := w F lo) (wh := w F hi) g.K (ha.v X sc cl g _ h1) ?_ ?_, rfl⟩
    · cases p with
      | none =>
        simp only [Bool.and_eq_true, Bool.not_eq_true'] at h2
        obtain ⟨rfl, h2⟩ := h2
        cases lo <;> first | (cases h2; done) | (rename_i zz _; cases zz <;> cases h2; done) | exact so_none F
      | some p =>
        simp only [Bool.and_eq_true] at h2
        obtain ⟨rfl, h2⟩ := h2
        exact so_some (hl.v X sc cl g _ h2)
    · cases q with
      | none =>
        simp only [Bool.and_eq_true, Bool.not_eq_true'] at h3
        obtain ⟨rfl, h3⟩ := h3
        cases hi <;> first | (cases h3; done) | (rename_i zz _; cases zz <;> cases h3; done) | exact so_none F
      | some p =>
        simp only [Bool.and_eq_true] at h3
        obtain ⟨rfl, h3⟩ := h3
        exact so_some (hh.v X sc cl g _ h3)
  · cases h
theorem sn_revL (ha : Snd T N F C a) : Snd T N F C (.revL a) := by
  refine .val (fun X sc cl g m x h => ?_) (fun _ _ _ h => by cases h)
  unfold chk at h
  split at h
  · rename_i e; cases e
    exact ⟨so_revL g.K (ha.v X sc cl g _ h), rfl⟩
  · cases h
theorem sn_pop0 (i : Nat) : Snd T N F C (.pop0 i) := by
  refine .val (fun X sc cl g m x h => ?_) (fun _ _ _ h => by cases h)
  unfold chk at h
  split at h
  · rename_i e; cases e
    simp only [Bool.and_eq_true, decide_eq_true_eq] at h
    obtain ⟨⟨rfl, h2⟩, h3⟩ := h
    obtain ⟨q1, q2, q3, q4⟩ := slotC_ok g h2
    exact ⟨so_pop0 q1 q2 q3 q4 F h3, rfl⟩
  · cases h
theorem sn_pop1 (i : Nat) (ha : Snd T N F C a) : Snd T N F C (.pop1 i a) := by
  refine .val (fun X sc cl g m x h => ?_) (fun _ _ _ h => by cases h)
  unfold chk at h
  split at h
  · rename_i e; cases e
    simp only [Bool.and_eq_true, decide_eq_true_eq] at h
    obtain ⟨⟨⟨⟨rfl, h2⟩, h3⟩, h4⟩, h5⟩ := h
    obtain ⟨q1, q2, q3, q4⟩ := slotC_ok g h2
    exact ⟨so_pop1 q1 q2 q3 q4 h3 (ha.v X sc cl g _ h5) (star_plain h4), rfl⟩
  · cases h
theorem b1_call {f : B1} {X : Cx} {sc : Scope} {cl : Str → Bool} {y : Str} {x : Expr} {py pos : Pos} (g : Gd T N F C X sc cl) (ha : Snd T N F C a) (hf : b1C f = true) (hy : y = Str.ofString (b1N f)) (hg : glC sc y = true) (hp : plainE x = true) (h : chk T N a false sc (.inl x) = true) :
    PE X (.Call (.Name y py) [x] [] pos) (tE C (w F (.b1 f a))) := by
  subst hy
  have hG := glC_ok g hg
  have hs : starEach [x] X.env = (false, eval x X.env) :: starEach [] X.env := star_plain hp
  have A := pa_cons (ha.v X sc cl g _ h) pa_nil hs
  have mg : ∀ z ∈ bltNames, X.mg (Str.ofString z) = none := g.mg
  cases f with
  | len => exact so_b1 (pe_callB call_len_seq hG (mg "len" (by decide)) rfl A (he := hs)) (fun _ _ _ _ _ _ p q r => by rw [g.K]; exact v_len p q r)
  | tupL => exact so_b1 (pe_callTy call_tupleF hG (mg "tuple" (by decide)) rfl A (he := hs)) (fun _ _ _ _ _ _ p q r => by rw [g.K]; exact v_tup _ (.inl rfl) p q r)
  | tupT => exact so_b1 (pe_callTy call_tupleF hG (mg "tuple" (by decide)) rfl A (he := hs)) (fun _ _ _ _ _ _ p q r => by rw [g.K]; exact v_tup _ (.inr rfl) p q r)
  | lstQ => exact so_b1 (pe_callTy call_list_of hG (mg "list" (by decide)) rfl A (he := hs)) (fun _ _ _ _ _ _ p q r => by rw [g.K]; exact v_lst p q r)
  | intI => exact so_b1 (pe_callTy call_int1 hG (mg "int" (by decide)) rfl A (he := hs)) (fun _ _ _ _ _ _ p q r => v_int _ (.inl rfl) p q r)
  | intB => exact so_b1 (pe_callTy call_int1 hG (mg "int" (by decide)) rfl A (he := hs)) (fun _ _ _ _ _ _ p q r => v_int _ (.inr rfl) p q r)
  | abs => exact so_b1 (pe_callB call_abs hG (mg "abs" (by decide)) rfl A (he := hs)) (fun _ _ _ _ _ _ p q r => v_abs p q r)
  | repr =>
    obtain ⟨k, hk⟩ := g.room
    exact so_b1 (pe_callB (call_repr_data g.gd (by have := hk.un; omega)) hG (mg "repr" (by decide)) rfl A (he := hs)) (fun _ _ _ _ _ _ p q r => by rw [g.K]; exact v_repr p q r)
  | all => exact so_b1 (pe_callB (cr_all g.calm) hG (mg "all" (by decide)) rfl A (he := hs)) (fun _ _ _ _ _ _ p q r => by rw [g.K]; exact v_all p q r)
  | sum => exact so_b1 (pe_callB (cr_sum g.calm) hG (mg "sum" (by decide)) rfl A (he := hs)) (fun _ _ _ _ _ _ p q r => by rw [g.K]; exact v_sum p q r)
  | maxL => exact so_b1 (pe_callB (cr_max g.calm) hG (mg "max" (by decide)) rfl A (he := hs)) (fun _ _ _ _ _ _ p q r => by rw [g.K]; exact v_max p q r)
  | minL => exact so_b1 (pe_callB (cr_min g.calm) hG (mg "min" (by decide)) rfl A (he := hs)) (fun _ _ _ _ _ _ p q r => by rw [g.K]; exact v_min p q r)
  | sortI => exact so_b1 (pe_callB cr_sortedI hG (mg "sorted" (by decide)) rfl A (he := hs)) (fun _ _ _ _ _ _ p q r => by rw [g.K]; exact v_sortI p q r)
  | sortD =>
    obtain ⟨k, hk⟩ := g.room
    exact so_b1 (pe_callB (cr_sortD (by have := hk.un; omega)) hG (mg "sorted" (by decide)) rfl A (he := hs)) (fun _ _ _ _ _ _ p q r => by rw [g.K]; exact v_sortD p q r)
  | sumT => exact so_b1 (pe_callB (cr_sumT g.calm) hG (mg "sum" (by decide)) rfl A (he := hs)) (fun _ _ _ _ _ _ p q r => by rw [g.K]; exact v_sumT p q r)
  | maxT =>
    obtain ⟨k, hk⟩ := g.room
    exact so_b1 (pe_callB (cr_maxT g.calm (by have := hk.un; omega)) hG (mg "max" (by decide)) rfl A (he := hs)) (fun _ _ _ _ _ _ p q r => by rw [g.K]; exact v_maxT p q r)
  | minT =>
    obtain ⟨k, hk⟩ := g.room
    exact so_b1 (pe_callB (cr_minT g.calm (by have := hk.un; omega)) hG (mg "min" (by decide)) rfl A (he := hs)) (fun _ _ _ _ _ _ p q r => by rw [g.K]; exact v_minT p q r)
  | _ => cases hf
theorem sn_b1 {f : B1} (ha : Snd T N F C a) : Snd T N F C (.b1 f a) := by
  refine .val (fun X sc cl g m x h => ?_) (fun _ _ _ h => by cases h)
  unfold chk at h
  split at h
  · rename_i e; cases e
    simp only [Bool.and_eq_true, decide_eq_true_eq] at h
    obtain ⟨⟨⟨⟨h1, h2⟩, h3⟩, h4⟩, h5⟩ := h
    exact ⟨b1_call g ha h1 h2 h3 h4 h5, rfl⟩
  · rename_i y py e z pz pos hx; cases hx
    simp only [Bool.and_eq_true, decide_eq_true_eq] at h
    obtain ⟨⟨⟨⟨⟨h1, h2⟩, h3⟩, h4⟩, h5⟩, h6⟩ := h
    subst h2
    have hG := glC_ok g h3
    have hZ := glC_ok g h4
    have hs : starEach [e, .Name z pz] X.env = (false, eval e X.env) :: starEach [.Name z pz] X.env := star_plain h5
    have mg : ∀ z ∈ bltNames, X.mg (Str.ofString z) = none := g.mg
    refine ⟨?_, rfl⟩
    cases f <;> simp only [isaN] at h1 <;> first | (cases h1; done) | skip
    · have := of_decide_eq_true h1; subst this
      exact so_isi (T := "tuple") (pe_callB call_isi hG (mg "isinstance" (by decide)) rfl (pa_cons (ha.v X sc cl g _ h6) (pa_cons (pe_bltn hZ (mg "tuple" (by decide)) rfl rfl) pa_nil rfl) hs) (he := hs)) (fun dx k q => by cases dx <;> exact q) (fun _ _ _ _ _ p q => by rw [g.K]; exact v_isT p q)
    · have := of_decide_eq_true h1; subst this
      exact so_isi (T := "int") (pe_callB call_isi hG (mg "isinstance" (by decide)) rfl (pa_cons (ha.v X sc cl g _ h6) (pa_cons (pe_bltn hZ (mg "int" (by decide)) rfl rfl) pa_nil rfl) hs) (he := hs)) (fun dx k q => by cases dx <;> exact q) (fun _ _ _ _ _ p q => by rw [g.K]; exact v_isI p q)
    · have := of_decide_eq_true h1; subst this
      exact so_isi (T := "bool") (pe_callB call_isi hG (mg "isinstance" (by decide)) rfl (pa_cons (ha.v X sc cl g _ h6) (pa_cons (pe_bltn hZ (mg "bool" (by decide)) rfl rfl) pa_nil rfl) hs) (he := hs)) (fun dx k q => by cases dx <;> exact q) (fun _ _ _ _ _ p q => by rw [g.K]; exact v_isB p q)
    · have := of_decide_eq_true h1; subst this
      exact so_isi (T := "str") (pe_callB call_isi hG (mg "isinstance" (by decide)) rfl (pa_cons (ha.v X sc cl g _ h6) (pa_cons (pe_bltn hZ (mg "str" (by decide)) rfl rfl) pa_nil rfl) hs) (he := hs)) (fun dx k q => by cases dx <;> exact q) (fun _ _ _ _ _ p q => by rw [g.K]; exact v_isS p q)
  · cases h
theorem notCall_ok {o : Expr} {m : Str} {env : Env} (h : notCall o = true) : attributeBase o m env (eval o env) = eval o env := by
  cases o <;> first | rfl | cases h
theorem so_b2' {X : Cx} {e : Expr} {wa wb : Wx} {f : B2} {r : List V → Hp → VK → Prop} (hp : PE X e (tCB r (tCons (tE C wa) (tCons (tE C wb) tNil))))
    (hr : ∀ (H : Hp) (O : Addr → Prop) (x y : V) (dx dy : D) (k : Bool → D → Prop) (Q : VK), Rp C.K H O x dx → Rp C.K H O y dy → b2S f dx dy k → (∀ fr d v H', k fr d → Res C.K H O fr d v H' → Q v H') → r [x, y] H Q) :
    PE X e (tE C fun env k => wa env fun va e1 => True ∧ wb e1 fun vb e2 => with1 va e2 fun x => with1 vb e2 fun y => b2S f x y fun fr d => k (rets fr d) e2) := by
  have := so_b2 hp hr
  simp only [true_and]
  exact this
theorem sn_b2 {f : B2} (ha : Snd T N F C a) (hb : Snd T N F C b) : Snd T N F C (.b2 f a b) := by
  refine .val (fun X sc cl g m x h => ?_) (fun _ _ _ h => by cases h)
  unfold chk at h
  split at h
  · rename_i o m apos e pos hx; cases hx
    simp only [Bool.and_eq_true, decide_eq_true_eq] at h
    obtain ⟨⟨⟨⟨⟨⟨h1, rfl⟩, h2⟩, h3⟩, h4⟩, h5⟩, h6⟩ := h
    have hs : starEach [e] X.env = [(false, eval e X.env)] := star_plain h4
    refine ⟨?_, rfl⟩
    cases f with
    | indexL => exact so_indexL g.K h3 (ha.v X sc cl g _ h5) (hb.v X sc cl g _ h6) (notCall_ok h2) hs
    | indexT => exact so_indexT g.K h3 (ha.v X sc cl g _ h5) (hb.v X sc cl g _ h6) (notCall_ok h2) hs
    | _ => cases h1
  · rename_i y py e e' pos hx; cases hx
    simp only [Bool.and_eq_true, decide_eq_true_eq] at h
    obtain ⟨⟨⟨⟨⟨⟨h1, h2⟩, h3⟩, h4⟩, h5⟩, h6⟩, h7⟩ := h
    subst h2
    have hG := glC_ok g h3
    have hs : starEach [e, e'] X.env = (false, eval e X.env) :: starEach [e'] X.env := star_plain h4
    have hs2 : starEach [e'] X.env = (false, eval e' X.env) :: starEach [] X.env := star_plain h5
    have A := pa_cons (ha.v X sc cl g _ h6) (pa_cons (hb.v X sc cl g _ h7) pa_nil hs2) hs
    have mg : ∀ z ∈ bltNames, X.mg (Str.ofString z) = none := g.mg
    have hpl : (backTo pos (starEach [e'] X.env)).any (·.1) = false := by rw [hs2]; rfl
    refine ⟨?_, rfl⟩
    cases f with
    | max2 => exact so_b2' (pe_callB (call_max2 g.calm) hG (mg "max" (by decide)) rfl A (he := hs) (hpl := hpl)) (fun _ _ _ _ _ _ _ _ p q r s => v_max2 p q r s)
    | min2 => exact so_b2' (pe_callB (call_min2 g.calm) hG (mg "min" (by decide)) rfl A (he := hs) (hpl := hpl)) (fun _ _ _ _ _ _ _ _ p q r s => v_min2 p q r s)
    | gcd => exact so_b2' (pe_callBfun cr_gcd hG (g.gcd h1) A (he := hs) (hpl := hpl)) (fun _ _ _ _ _ _ _ _ p q r s => v_gcd p q r s)
    | _ => cases h1
  · cases h
theorem sn_call {f : Nat} {s : Option Nat} (ha : Snd T N F C a) : Snd T N F C (.call f s a) := by
  refine .val (fun X sc cl g m x h => ?_) (fun _ _ _ h => by cases s <;> cases h)
  unfold chk at h
  cases s with
  | none =>
    simp only at h
    split at h
    · rename_i y py e es pos hx; cases hx
      simp only [Bool.and_eq_true, decide_eq_true_eq] at h
      obtain ⟨⟨⟨h1, h2⟩, h3⟩, h4⟩ := h
      obtain ⟨k, n, hr, c⟩ := g.calls _ _ _ h1
      simp only [List.all_cons, Bool.and_eq_true] at h3
      exact ⟨so_call g.K c hr g.gd (glC_ok g h2) (ha.a X sc cl g _ _ h4) h3.1 h3.2, rfl⟩
    · cases h
  | some i =>
    simp only at h
    split at h
    · rename_i y py z pz es pos hx; cases hx
      simp only [Bool.and_eq_true, decide_eq_true_eq] at h
      obtain ⟨⟨⟨⟨h1, h2⟩, h3⟩, h4⟩, h5⟩ := h
      obtain ⟨k, n, hr, c⟩ := g.calls _ _ _ h1
      obtain ⟨q1, q2, q3, q4⟩ := slotC_ok g h3
      exact ⟨so_callS g.K q1 q2 q3 q4 c hr g.gd (glC_ok g h2) (ha.a X sc cl g _ _ h5) h4, rfl⟩
    · cases h
/-- the iterator of a loop -/
def chkI (T : Tn) (N : List Str) (ik : Ik) (it : Ex) (sc : Scope) (tgE iter : Expr) : Bool := match ik with
          | .lst => chk T N it false sc (.inl iter)
          | .tup => chk T N it false sc (.inl iter)
          | .rng1 => (match iter with | .Call (.Name y _) [a] [] _ => decide (y = ("range" : Str)) && glC sc y && plainE a && chk T N it false sc (.inr [a]) | _ => false)
          | .rng2 => (match iter with | .Call (.Name y _) [a, b] [] _ => decide (y = ("range" : Str)) && glC sc y && plainE a && plainE b && chk T N it false sc (.inr [a, b]) | _ => false)
          | .rng3 => (match iter with | .Call (.Name y _) [a, b, c] [] _ => decide (y = ("range" : Str)) && glC sc y && plainE a && plainE b && plainE c && chk T N it false sc (.inr [a, b, c]) | _ => false)
          | .zipL => (match iter with | .Call (.Name y _) [a, b] [] _ => isTupE tgE && decide (y = ("zip" : Str)) && glC sc y && plainE a && plainE b && chk T N it false sc (.inr [a, b]) | _ => false)
          | .zipT => (match iter with | .Call (.Name y _) [a, b] [] _ => isTupE tgE && decide (y = ("zip" : Str)) && glC sc y && plainE a && plainE b && chk T N it false sc (.inr [a, b]) | _ => false)
          | .enL => (match iter with | .Call (.Name y _) [a] [] _ => isTupE tgE && decide (y = ("enumerate" : Str)) && glC sc y && plainE a && chk T N it false sc (.inr [a]) | _ => false)
          | .enT => (match iter with | .Call (.Name y _) [a] [] _ => isTupE tgE && decide (y = ("enumerate" : Str)) && glC sc y && plainE a && chk T N it false sc (.inr [a]) | _ => false)
          | _ => false
theorem it_sound {ik : Ik} {it : Ex} {X : Cx} {sc : Scope} {cl : Str → Bool} {tgE iter : Expr} (g : Gd T N F C X sc cl) (ha : Snd T N F C it) (h : chkI T N ik it sc tgE iter = true) : PI X tgE iter (tI C ik (w F it)) := by
  unfold chkI at h
  cases ik with
  | lst => exact so_itL g.K (ha.v X sc cl g _ h)
  | tup => exact so_itT g.K (ha.v X sc cl g _ h)
  | rng1 =>
    simp only at h
    split at h
    · simp only [Bool.and_eq_true, decide_eq_true_eq] at h
      obtain ⟨⟨⟨rfl, h2⟩, h3⟩, h4⟩ := h
      exact so_rng1 h3 (glC_ok g h2) (g.mg "range" (by decide)) (ha.a X sc cl g _ _ h4)
    · cases h
  | rng2 =>
    simp only at h
    split at h
    · simp only [Bool.and_eq_true, decide_eq_true_eq] at h
      obtain ⟨⟨⟨⟨rfl, h2⟩, h3⟩, h3'⟩, h4⟩ := h
      exact so_rng2 h3 h3' (glC_ok g h2) (g.mg "range" (by decide)) (ha.a X sc cl g _ _ h4)
    · cases h
  | rng3 =>
    simp only at h
    split at h
    · simp only [Bool.and_eq_true, decide_eq_true_eq] at h
      obtain ⟨⟨⟨⟨⟨rfl, h2⟩, h3⟩, h3'⟩, h3''⟩, h4⟩ := h
      exact so_rng3 h3 h3' h3'' (glC_ok g h2) (g.mg "range" (by decide)) (ha.a X sc cl g _ _ h4)
    · cases h
  | zipL =>
    simp only at h
    split at h
    · simp only [Bool.and_eq_true, decide_eq_true_eq] at h
      obtain ⟨⟨⟨⟨⟨h0, rfl⟩, h2⟩, h3⟩, h3'⟩, h4⟩ := h
      cases tgE <;> first | (cases h0; done) | exact so_zip false g.K h3 h3' (glC_ok g h2) (g.mg "zip" (by decide)) (ha.a X sc cl g _ _ h4)
    · cases h
  | zipT =>
    simp only at h
    split at h
    · simp only [Bool.and_eq_true, decide_eq_true_eq] at h
      obtain ⟨⟨⟨⟨⟨h0, rfl⟩, h2⟩, h3⟩, h3'⟩, h4⟩ := h
      cases tgE <;> first | (cases h0; done) | exact so_zip true g.K h3 h3' (glC_ok g h2) (g.mg "zip" (by decide)) (ha.a X sc cl g _ _ h4)
    · cases h
  | enL =>
    simp only at h
    split at h
    · simp only [Bool.and_eq_true, decide_eq_true_eq] at h
      obtain ⟨⟨⟨⟨h0, rfl⟩, h2⟩, h3⟩, h4⟩ := h
      cases tgE <;> first | (cases h0; done) | exact so_enL g.K h3 (glC_ok g h2) (g.mg "enumerate" (by decide)) (ha.a X sc cl g _ _ h4)
    · cases h
  | enT =>
    simp only at h
    split at h
    · simp only [Bool.and_eq_true, decide_eq_true_eq] at h
      obtain ⟨⟨⟨⟨h0, rfl⟩, h2⟩, h3⟩, h4⟩ := h
      cases tgE <;> first | (cases h0; done) | exact so_enT g.K h3 (glC_ok g h2) (g.mg "enumerate" (by decide)) (ha.a X sc cl g _ _ h4)
    · cases h
  | _ => cases h
theorem notSet_ok {iter : Expr} {env : Env} (h : notSet iter = true) : ∀ x, foldedSetIterable iter env x = pure x := by
  intro x
  cases iter <;> first | rfl | cases h
theorem yes_read {σ : Sg} {H : Hp} {Q : Bool → Hp → Prop} (h : tT C (w F (.k (.bool true))) σ H Q) : tYes σ H Q := by
  obtain ⟨pn, env, O, k, K, W, q⟩ := h
  obtain ⟨b, eb, W⟩ := W
  cases eb
  exact q _ _ _ _ W K .refl
theorem _root_.L2.PTs.weak {X : Cx} {es : List Expr} {t t' : TT} (h : PTs X es t) (hw : ∀ σ H Q, t' σ H Q → t σ H Q) : PTs X es t' := ⟨fun pins s σ H Q I q => h.run pins s σ H Q I (hw σ H Q q)⟩
structure CompOk (T : Tn) (N : List Str) (F : Fns) (C : Cc) (X : Cx) (own : List Nat) (ik : Ik) (it : Ex) (tg : Tg) (t e : Ex) (elt tgE iter : Expr) (ifs : List Expr) (scope : Scope) : Prop where
  hi : PI X tgE iter (tI C ik (w F it))
  ok : BlkOk X.N X.env.scope scope (own.map fun i => (N.getD i Str.empty, i))
  hg : ∀ (s : Shared) (H : Hp) (D : Addr) (cl : List (Str × Addr)) (fp : List Addr), PG (X.blk s H scope (compEnvC scope cl D X.env) fp) tgE (tG C tg)
  ht : ∀ (s : Shared) (H : Hp) (D : Addr) (cl : List (Str × Addr)) (fp : List Addr), PTs (X.blk s H scope (compEnvC scope cl D X.env) fp) ifs (tT C (w F t))
  he : ∀ (s : Shared) (H : Hp) (D : Addr) (cl : List (Str × Addr)) (fp : List Addr), PE (X.blk s H scope (compEnvC scope cl D X.env) fp) elt (tE C (w F e))
  sub : ∀ j ∈ tgS tg, j ∈ (own.map fun i => (N.getD i Str.empty, i)).map (·.2)
  st : ∀ x, foldedSetIterable iter X.env x = pure x
  raw : rawI ik = true → isTt tg = true
theorem own_map {own : List Nat} : (own.map fun i => (N.getD i Str.empty, i)).map (·.2) = own := by
  rw [List.map_map]
  exact List.map_id own
def chkC (T : Tn) (N : List Str) (own : List Nat) (ik : Ik) (it : Ex) (tg : Tg) (t e : Ex) (sc : Scope) (elt tgE iter : Expr) (ifs : List Expr) (scope : Scope) : Bool :=
        blkC N sc scope (own.map fun i => (N.getD i Str.empty, i)) && (tgS tg).all (fun j => decide (j ∈ own)) && (!rawI ik || isTt tg) && notSet iter && chkG N (relS scope sc) (fnC scope.names) tg (.inl tgE) &&
        chkI T N ik it sc tgE iter &&
        (match ifs with
          | [] => isCT t
          | [c] => chk T N t true (relS scope sc) (.inl c)
          | _ => false) && chk T N e false (relS scope sc) (.inl elt)
theorem raw_ok {ik : Ik} {tg : Tg} (h : (!rawI ik || isTt tg) = true) : rawI ik = true → isTt tg = true := fun e => by rw [e] at h; simpa using h
theorem compOk {own : List Nat} {ik : Ik} {it : Ex} {tg : Tg} {t e : Ex} {X : Cx} {sc : Scope} {cl : Str → Bool} {elt tgE iter : Expr} {ifs : List Expr} {scope : Scope} (g : Gd T N F C X sc cl) (hit : Snd T N F C it) (ht : Snd T N F C t) (he : Snd T N F C e)
    (h : chkC T N own ik it tg t e sc elt tgE iter ifs scope = true) : CompOk T N F C X own ik it tg t e elt tgE iter ifs scope := by
  unfold chkC at h
  simp only [Bool.and_eq_true] at h
  obtain ⟨⟨⟨⟨⟨⟨⟨h1, h2⟩, hr⟩, h3⟩, h4⟩, h5⟩, h6⟩, h7⟩ := h
  have gb := fun s H D l fp => g.blk s H scope D l fp
  refine ⟨it_sound g hit h5, by rw [g.hN, g.sc]; exact blkOk_by h1, fun s H D l fp => (tg_sound tg).1 _ _ _ (gb s H D l fp) _ h4, fun s H D l fp => ?_, fun s H D l fp => he.v _ _ _ (gb s H D l fp) _ h7, fun j hj => ?_, notSet_ok h3, raw_ok hr⟩
  · split at h6
    · cases t <;> first | (cases h6; done) | skip
      rename_i d
      cases d <;> first | (cases h6; done) | skip
      rename_i b
      cases b <;> first | (cases h6; done) | skip
      exact pts_nil.weak fun _ _ _ => yes_read
    · exact pts_one (ht.t _ _ _ (gb s H D l fp) _ h6)
    · cases h6
  · rw [own_map]
    simpa using List.all_eq_true.mp h2 j hj
theorem chk_comp {own : List Nat} {ik : Ik} {it : Ex} {tg : Tg} {t e : Ex} {m : Bool} {sc : Scope} {x : Expr} (h : chk T N (.comp own ik it tg t e) m sc (.inl x) = true) : ∃ elt tgE iter ifs scope pos, x = .ListComp elt [⟨tgE, iter, ifs, 0⟩] scope pos ∧ chkC T N own ik it tg t e sc elt tgE iter ifs scope = true := by
  unfold chk at h
  split at h
  · rename_i elt tgE iter ifs scope pos hx; cases hx
    exact ⟨_, _, _, _, _, _, rfl, h⟩
  · cases h
theorem sn_comp {own : List Nat} {ik : Ik} {it : Ex} {tg : Tg} {t e : Ex} (hit : Snd T N F C it) (ht : Snd T N F C t) (he : Snd T N F C e) : Snd T N F C (.comp own ik it tg t e) := by
  refine .val (fun X sc cl g m x h => ?_) (fun _ _ _ h => by cases h)
  obtain ⟨elt, tgE, iter, ifs, scope, pos, rfl, h⟩ := chk_comp h
  have c := compOk g hit ht he h
  have nd : X.N.Nodup := by rw [g.hN]; exact g.nd
  refine ⟨(pe_lc g.calm nd c.hi c.ok c.hg c.ht c.he c.st).weak fun σ H Q hw => so_comp g.K g.calm nd c.hi c.ok c.hg c.ht c.he c.sub c.raw σ H Q ?_, rfl⟩
  rw [own_map]
  exact hw
/-- the things of a list, each by itself -/
def Elts (T : Tn) (N : List Str) (F : Fns) (C : Cc) : Ex → Prop
  | .cons a b => Snd T N F C a ∧ Elts T N F C b
  | _ => True
theorem chk_consF {a : Ex} {m : Bool} {sc : Scope} {e : Expr} {es : List Expr} (hp : plainE e = true) (h : chk T N a m sc (.inr (e :: es)) = true) : ∃ x b, a = .cons x b ∧ chk T N x false sc (.inl e) = true ∧ chk T N b false sc (.inr es) = true := by
  cases a with
  | cons x b =>
    simp only [chk, Bool.and_eq_true] at h
    exact ⟨x, b, rfl, h.1.2, h.2⟩
  | star x b =>
    unfold chk at h
    split at h
    · rename_i e; cases e; cases hp
    · cases h
  | call f s x => cases s <;> cases h
  | _ => cases h
theorem chk_nilF {a : Ex} {m : Bool} {sc : Scope} (h : chk T N a m sc (.inr []) = true) : a = .nil := by
  cases a with
  | nil => rfl
  | call f s x => cases s <;> cases h
  | _ => cases h
theorem dic_pps {X : Cx} {sc : Scope} {cl : Str → Bool} {pos : Pos} (g : Gd T N F C X sc cl) : ∀ {keys : List (Option Expr)} {values : List Expr} {a : Ex}, Elts T N F C a → (altE keys values).all plainE = true → keys.length = values.length → keys.all (·.isSome) = true → chk T N a false sc (.inr (altE keys values)) = true → ∃ trs, Trs F C a trs ∧ PPs X pos keys values trs
  | [], [], a, _, hv, _, _, h => by
    cases chk_nilF h
    exact ⟨[], .nil, pps_nil⟩
  | [], _ :: _, _, _, _, hl, _, _ => by cases hl
  | _ :: _, [], _, _, _, hl, _, _ => by cases hl
  | none :: _, _ :: _, _, _, _, _, ha, _ => by simp at ha
  | some k :: ks, v :: vs, a, he, hv, hl, ha, h => by
    simp only [altE, List.all_cons, Bool.and_eq_true] at hv
    obtain ⟨x, b, rfl, h1, h⟩ := chk_consF hv.1 h
    obtain ⟨y, r, rfl, h2, h3⟩ := chk_consF hv.2.1 h
    have hl' : ks.length = vs.length := by simpa using hl
    have ha' : ks.all (·.isSome) = true := by simpa using ha
    obtain ⟨trs, t, p⟩ := dic_pps g he.2.2 hv.2.2 hl' ha' h3
    exact ⟨_, .cons t, pps_cons (he.1.v X sc cl g _ h1) (he.2.1.v X sc cl g _ h2) p⟩
theorem sn_dic (ha : Elts T N F C a) : Snd T N F C (.dic a) := by
  refine .val (fun X sc cl g m x h => ?_) (fun _ _ _ h => by cases h)
  cases x <;> first | (cases h; done) | skip
  rename_i keys values pos
  simp only [chk, Bool.and_eq_true, decide_eq_true_eq] at h
  obtain ⟨⟨⟨⟨h1, h2⟩, h3⟩, h4⟩, h5⟩ := h
  refine ⟨?_, rfl⟩
  by_cases h0 : keys = []
  · subst h0
    have hv : values = [] := List.length_eq_zero_iff.mp h1.symm
    subst hv
    cases chk_nilF h4
    exact so_dic0
  · obtain ⟨trs, t, p⟩ := dic_pps (pos := pos) g ha h5 h1 h3 h4
    exact so_dic t p h3 h1 h0 h2
theorem uroom {X : Cx} {sc : Scope} {cl : Str → Bool} (g : Gd T N F C X sc cl) : X.A.units + 1 < cLine := by
  obtain ⟨k, hk⟩ := g.room
  have := hk.un
  omega
theorem noSl_ok {i : Expr} (h : ixPlain i = true) : NoSl i := by
  intro ov iv
  cases i <;> first | rfl | cases h
theorem sn_dget (ha : Snd T N F C a) (hb : Snd T N F C b) : Snd T N F C (.dget a b) := by
  refine .val (fun X sc cl g m x h => ?_) (fun _ _ _ h => by cases h)
  cases x <;> first | (cases h; done) | skip
  simp only [chk, Bool.and_eq_true] at h
  exact ⟨so_dget (uroom g) (noSl_ok h.1.1) (ha.v X sc cl g _ h.1.2) (hb.v X sc cl g _ h.2), rfl⟩
theorem sn_dgetd (ha : Snd T N F C a) (hb : Snd T N F C b) (hc : Snd T N F C c) : Snd T N F C (.dgetd a b c) := by
  refine .val (fun X sc cl g m x h => ?_) (fun _ _ _ h => by cases h)
  unfold chk at h
  split at h
  · rename_i o mm apos y z pos hx; cases hx
    simp only [Bool.and_eq_true, decide_eq_true_eq] at h
    obtain ⟨⟨⟨⟨⟨⟨⟨rfl, h2⟩, h3⟩, h4⟩, h5⟩, h6⟩, h7⟩, h8⟩ := h
    have hs : starEach [y, z] X.env = [(false, eval y X.env), (false, eval z X.env)] := by rw [star_plain h4, star_plain h5]; rfl
    exact ⟨so_dgetd (uroom g) ⟨notCall_ok h2, by rw [hs]; rfl, h3, by rw [hs]; rfl⟩ (ha.v X sc cl g _ h6) (hb.v X sc cl g _ h7) (hc.v X sc cl g _ h8), rfl⟩
  · cases h
theorem sn_dIn {n : Bool} (ha : Snd T N F C a) (hb : Snd T N F C b) : Snd T N F C (.dIn n a b) := by
  refine .cmp (fun X sc cl g m x h => ?_) (fun _ _ _ h => by cases h)
  cases x <;> first | (cases h; done) | skip
  rename_i l ops rs p
  match ops, rs, h with
  | [op], [r], h =>
    simp only [chk, Bool.and_eq_true, Bool.not_eq_true'] at h
    obtain ⟨⟨⟨h1, h2⟩, h3⟩, h4⟩ := h
    have e : op = if n = true then .NotIn else .In := by
      cases n <;> cases op <;> first | rfl | cases h1
    subst e
    exact ⟨so_dInE (uroom g) h2 (ha.v X sc cl g _ h3) (hb.v X sc cl g _ h4), so_dInT (uroom g) h2 (ha.v X sc cl g _ h3) (hb.v X sc cl g _ h4), fun _ _ _ q => by cases q⟩
theorem step_po {X : Cx} {st : Int} {stE : Expr} (h : stepC st stE = true) : PO X (some stE) (fun σ H Q => Q (some st) H) ∧ st ≠ 0 ∧ st ≠ 1 := by
  unfold stepC at h
  split at h
  · rename_i c _ _ _
    simp only [Bool.and_eq_true, decide_eq_true_eq] at h
    obtain ⟨rfl, h2⟩ := h
    exact ⟨⟨fun pins s σ H Q I q => (po_some (pe_un un_neg pe_int)).run pins s σ H Q I ⟨c, rfl, -c, rfl, q⟩⟩, by omega, by omega⟩
  · rename_i c _ _
    simp only [Bool.and_eq_true, decide_eq_true_eq] at h
    obtain ⟨rfl, h2⟩ := h
    exact ⟨⟨fun pins s σ H Q I q => (po_some pe_int).run pins s σ H Q I ⟨st, rfl, q⟩⟩, by omega, by omega⟩
  · cases h
theorem clip_lo (v n : Int) (h : 0 ≤ n) : -1 ≤ (if v < 0 then max (v + n) (-1) else min v (n - 1)) ∧ (if v < 0 then max (v + n) (-1) else min v (n - 1)) ≤ n - 1 := by
  split <;> omega
theorem clip_up (v n : Int) (h : 0 ≤ n) : 0 ≤ (if v < 0 then max (v + n) 0 else min v n) ∧ (if v < 0 then max (v + n) 0 else min v n) ≤ n := by
  split <;> omega
theorem div_le (a b : Int) (ha : 0 ≤ a) (hb : 0 < b) : a / b ≤ a := Int.ediv_le_self b ha
theorem pickG_len {α : Type} (xs : List α) (st : Int) (lo : Option Int) (h0 : st ≠ 0) : (pickG xs st lo).length ≤ xs.length := by
  refine Nat.le_trans (filterMap_len _ _) ?_
  rw [List.length_range]
  by_cases hs : st < 0
  · have hs' : ¬ st > 0 := by omega
    have hb : ∀ s : Int, -1 ≤ s → s ≤ (xs.length : Int) - 1 → (if s > -1 then (s - (-1) - 1) / (-st) + 1 else 0).toNat ≤ xs.length := fun s h1 h2 => by
      split
      · have := div_le (s - (-1) - 1) (-st) (by omega) (by omega)
        omega
      · omega
    unfold Builtin.Slice.slicePlaces Builtin.Slice.sliceAdjust
    cases lo with
    | none =>
      simp only [hs, hs', if_true, if_false]
      exact hb _ (by omega) (by omega)
    | some v =>
      simp only [hs, hs', if_true, if_false]
      obtain ⟨h1, h2⟩ := clip_lo v (xs.length : Int) (by omega)
      exact hb _ h1 h2
  · have hs' : st > 0 := by omega
    have hb : ∀ s : Int, 0 ≤ s → s ≤ (xs.length : Int) → (if s < (xs.length : Int) then ((xs.length : Int) - s - 1) / st + 1 else 0).toNat ≤ xs.length := fun s h1 h2 => by
      split
      · have := div_le ((xs.length : Int) - s - 1) st (by omega) (by omega)
        omega
      · omega
    unfold Builtin.Slice.slicePlaces Builtin.Slice.sliceAdjust
    cases lo with
    | none =>
      simp only [hs, hs', if_true, if_false]
      exact hb _ (by omega) (by omega)
    | some v =>
      simp only [hs, hs', if_true, if_false]
      obtain ⟨h1, h2⟩ := clip_up v (xs.length : Int) (by omega)
      exact hb _ h1 h2
theorem sn_slcT {l : Bool} {st : Int} {lo : Ex} (ha : Snd T N F C a) (hl : Snd T N F C lo) : Snd T N F C (.slcT l st a lo) := by
  refine .val (fun X sc cl g m x h => ?_) (fun _ _ _ h => by cases h)
  unfold chk at h
  split at h
  · rename_i e p stE _ _ hx; cases hx
    simp only [Bool.and_eq_true] at h
    obtain ⟨⟨h0, h1⟩, h2⟩ := h
    obtain ⟨s1, s2, s3⟩ := step_po (X := X) h0
    refine ⟨so_slcT (wl := w F lo) g.K (ha.v X sc cl g _ h1) ?_ s1 s2 s3 (fun xs p hz => Nat.le_trans (pickG_len xs st p s2) hz), rfl⟩
    cases p with
    | none =>
      simp only [Bool.and_eq_true, Bool.not_eq_true'] at h2
      obtain ⟨rfl, h2⟩ := h2
      cases lo <;> first | (cases h2; done) | (rename_i zz _; cases zz <;> cases h2; done) | exact so_none F
    | some p =>
      simp only [Bool.and_eq_true] at h2
      obtain ⟨rfl, h2⟩ := h2
      exact so_some (hl.v X sc cl g _ h2)
  · cases h
theorem sn_lrng {l : Bool} {n : Nat} (ha : Snd T N F C a) : Snd T N F C (.lrng l n a) := by
  refine .val (fun X sc cl g m x h => ?_) (fun _ _ _ h => by cases h)
  unfold chk at h
  split at h
  · rename_i y py z pz e es p1 pos hx; cases hx
    simp only [Bool.and_eq_true, decide_eq_true_eq] at h
    obtain ⟨⟨⟨⟨⟨h1, rfl⟩, h3⟩, h4⟩, h5⟩, h6⟩ := h
    simp only [List.all_cons, Bool.and_eq_true] at h5
    have hm : X.mg y = none := by
      cases l with
      | true => rw [h1]; exact g.mg "list" (by decide)
      | false => rw [h1]; exact g.mg "tuple" (by decide)
    have hn : (l = true ∧ y = ("list" : Str)) ∨ (l = false ∧ y = ("tuple" : Str)) := by
      cases l with
      | true => exact .inl ⟨rfl, h1⟩
      | false => exact .inr ⟨rfl, h1⟩
    exact ⟨so_lrng hn g.calm (glC_ok g h3) hm (glC_ok g h4) (g.mg "range" (by decide)) (ha.a X sc cl g _ _ h6) (star_plain h5.1) (star_all h5.2), rfl⟩
  · cases h
theorem snd2 : ∀ e : Ex, Snd T N F C e ∧ Elts T N F C e
  | .k d => ⟨sn_k d, True.intro⟩
  | .v i => ⟨sn_v i, True.intro⟩
  | .mv i => ⟨sn_mv i, True.intro⟩
  | .g _ _ => ⟨.bot (fun _ _ _ h => by cases h) (fun _ _ _ h => by cases h), True.intro⟩
  | .op _ a b => ⟨sn_op (snd2 a).1 (snd2 b).1, True.intro⟩
  | .neg a => ⟨sn_neg (snd2 a).1, True.intro⟩
  | .cmp _ a b => ⟨sn_cmp (snd2 a).1 (snd2 b).1, True.intro⟩
  | .ch2 _ _ a b c => ⟨sn_ch2 (snd2 a).1 (snd2 b).1 (snd2 c).1, True.intro⟩
  | .ch3 _ _ _ _ _ _ _ => ⟨.bot (fun _ _ _ h => by cases h) (fun _ _ _ h => by cases h), True.intro⟩
  | .isN a => ⟨sn_isN (snd2 a).1, True.intro⟩
  | .notN a => ⟨sn_notN (snd2 a).1, True.intro⟩
  | .isB _ a => ⟨sn_isB (snd2 a).1, True.intro⟩
  | .notB _ a => ⟨sn_notB (snd2 a).1, True.intro⟩
  | .and a b => ⟨sn_and (snd2 a).1 (snd2 b).1, True.intro⟩
  | .or a b => ⟨sn_or (snd2 a).1 (snd2 b).1, True.intro⟩
  | .not a => ⟨sn_not (snd2 a).1, True.intro⟩
  | .ite c a b => ⟨sn_ite (snd2 c).1 (snd2 a).1 (snd2 b).1, True.intro⟩
  | .nil => ⟨sn_nil, True.intro⟩
  | .cons a b => ⟨sn_cons (snd2 a).1 (snd2 b).1, (snd2 a).1, (snd2 b).2⟩
  | .star a b => ⟨sn_star (snd2 a).1 (snd2 b).1, True.intro⟩
  | .tup a => ⟨sn_tup (snd2 a).1, True.intro⟩
  | .lst a => ⟨sn_lst (snd2 a).1, True.intro⟩
  | .dic a => ⟨sn_dic (snd2 a).2, True.intro⟩
  | .idx a b => ⟨sn_idx (snd2 a).1 (snd2 b).1, True.intro⟩
  | .dget a b => ⟨sn_dget (snd2 a).1 (snd2 b).1, True.intro⟩
  | .dgetd a b c => ⟨sn_dgetd (snd2 a).1 (snd2 b).1 (snd2 c).1, True.intro⟩
  | .dIn _ a b => ⟨sn_dIn (snd2 a).1 (snd2 b).1, True.intro⟩
  | .slc _ _ a lo hi => ⟨sn_slc (snd2 a).1 (snd2 lo).1 (snd2 hi).1, True.intro⟩
  | .revL a => ⟨sn_revL (snd2 a).1, True.intro⟩
  | .slcT _ _ a lo => ⟨sn_slcT (snd2 a).1 (snd2 lo).1, True.intro⟩
  | .b1 _ a => ⟨sn_b1 (snd2 a).1, True.intro⟩
  | .b2 _ a b => ⟨sn_b2 (snd2 a).1 (snd2 b).1, True.intro⟩
  | .lrng _ _ a => ⟨sn_lrng (snd2 a).1, True.intro⟩
  | .pop0 i => ⟨sn_pop0 i, True.intro⟩
  | .pop1 i a => ⟨sn_pop1 i (snd2 a).1, True.intro⟩
  | .call _ _ a => ⟨sn_call (snd2 a).1, True.intro⟩
  | .comp _ _ it _ t e => ⟨sn_comp (snd2 it).1 (snd2 t).1 (snd2 e).1, True.intro⟩
theorem snd (e : Ex) : Snd T N F C e := (snd2 e).1
end
end Ev
/-! EvPar: a, b = x, y and its kin. -/
namespace Ev
open PySem PySem.Spec PyProof.Rows L2

/-- values that are held at once: the new ones stand pinned -/
def Hs (C : Cc) (H : Hp) (O : Addr → Prop) : List (Addr × HO) → List (Addr × HO) → List Vl → List V → Prop
  | _, ps, [], vs => ps = [] ∧ vs = []
  | pn, ps, .fz d :: vls, vs => ∃ v r, vs = v :: r ∧ Fz C.K H O v d ∧ Hs C H O pn ps vls r
  | pn, ps, .fr d :: vls, vs => ∃ a ho r ps', vs = .ref a :: r ∧ ps = ps' ++ [(a, ho)] ∧ Cell C.K H O a d ∧ C.Hb a = none ∧ (∀ q ∈ pn, q.1 ≠ a) ∧ Hs C H O ((a, ho) :: pn) ps' vls r
  | _, _, _ :: _, _ => False
def tAP (C : Cc) (W : Ev → (List Vl → Ev → Prop) → Prop) : TA := fun σ H Q => ∃ pn env O k, Ok8 C C.so pn σ H env O ∧ W env k ∧
  ∀ vls env' vs H' O' ps, k vls env' → Ok8 C C.so (ps ++ pn) σ H' env' O' → Hs C H' O' pn ps vls vs → Step H O H' O' → Q vs H'
section
variable {X : Cx} {C : Cc} {e a b : Expr} {es : List Expr} {pos : Pos} {wa : Wx} {wb : Ev → (List Vl → Ev → Prop) → Prop} {σ : Sg} {H H' : Hp} {env : Ev} {O O' : Addr → Prop} {pn : List (Addr × HO)} {so : Option (Addr × Addr)}
theorem Hs.len {C : Cc} {H : Hp} {O : Addr → Prop} : ∀ {vls : List Vl} {pn ps : List (Addr × HO)} {vs : List V}, Hs C H O pn ps vls vs → vs.length = vls.length
  | [], _, _, _, h => by cases h.2; rfl
  | .fz d :: vls, _, _, _, h => by obtain ⟨v, r, rfl, _, h⟩ := h; simp [h.len]
  | .fr d :: vls, _, _, _, h => by obtain ⟨a, ho, r, ps', rfl, _, _, _, _, h⟩ := h; simp [h.len]
  | .bw _ :: _, _, _, _, h => h.elim
  | .sr :: _, _, _, _, h => h.elim
theorem Ok8.pinOwn {a : Addr} {ho : HO} (k : Ok8 C so pn σ H env O) (e : H a = some ho) (oa : O a) (nb : C.Hb a = none) (no : ∀ i, ¬ OwnAt σ env i a) (ns : ∀ p c, so = some (p, c) → a ≠ p ∧ a ≠ c) : Ok8 C so ((a, ho) :: pn) σ H env O := by
  refine ⟨k.len, k.slot, k.inj, k.fr, k.dom, k.sub, k.o0, k.src, k.s0, fun q hq => ?_⟩
  rcases List.mem_cons.mp hq with rfl | hq
  · exact ⟨e, oa, nb, no, ns⟩
  · exact k.pin q hq
theorem so_pnil (F : Fns) : PA X [] (tAP C (wPar F .nil)) := by
  refine pa_nil.weak fun σ H Q ⟨pn, env, O, k, K, W, q⟩ => ?_
  exact q [] env [] H O [] W K ⟨rfl, rfl⟩ .refl
theorem so_pcons (ha : PE X a (tE C wa)) (hr : PA X es (tAP C wb)) (hs : starEach (a :: es) X.env = (false, eval a X.env) :: starEach es X.env) :
    PA X (a :: es) (tAP C fun env k => wa env fun v e1 => hold v e1 fun v' e2 => wb e2 fun vs e3 => k (v' :: vs) e3) := by
  refine (pa_cons ha hr hs).weak fun σ H Q ⟨pn, env, O, k, K, W, q⟩ => ?_
  refine ⟨pn, env, O, _, K, W, fun va e1 x H1 O1 w1 k1 v1 s1 => ?_⟩
  have old : (va.give e1 fun d e => wb e fun vs e3 => k (.fz d :: vs) e3) → tAP C wb σ H1 fun vs H2 => Q (x :: vs) H2 := fun w1 => by
    obtain ⟨d, e2, O2, w2, k2, s2, f2⟩ := v1.give k1 w1
    refine ⟨pn, e2, O2, _, k2, w2, fun vls e3 vs H3 O3 ps w3 k3 h3 s3 => ?_⟩
    exact q _ _ _ _ _ _ w3 k3 ⟨x, vs, rfl, f2.step s3, h3⟩ (s1.trans (s2.trans s3))
  cases va with
  | fz d => exact old w1
  | bw i => exact old w1
  | sr => exact w1.elim
  | fr d =>
    obtain ⟨a, rfl, oa, nb, c, no, ns, np⟩ := v1
    obtain ⟨ho, eh⟩ := c.some
    refine ⟨(a, ho) :: pn, e1, O1, _, k1.pinOwn eh oa nb no ns, w1, fun vls e3 vs H3 O3 ps w3 k3 h3 s3 => ?_⟩
    have pe := (k3.pin (a, ho) (by simp)).1
    refine q _ _ _ _ _ (ps ++ [(a, ho)]) w3 (by rw [List.append_assoc]; exact k3) ⟨a, ho, vs, ps, rfl, rfl, c.step s3 (pe.trans eh.symm), nb, np, h3⟩ (s1.trans s3)
/-- the slots take what is held, the last one first -/
def setR : List Nat → List V → Sg → Sg
  | i :: is, v :: vs, σ => (setR is vs σ).set i (some v)
  | _, _, σ => σ
theorem parSet_len : ∀ {is : List Nat} {vs : List Vl} {env : Ev}, (parSet is vs env).length = env.length
  | [], _, _ => by cases ‹List Vl› <;> rfl
  | _ :: _, [], _ => rfl
  | i :: is, v :: vs, env => by simp only [parSet, List.length_set]; exact parSet_len
theorem Ok8.par : ∀ {is : List Nat} {vls : List Vl} {pn ps : List (Addr × HO)} {vs : List V}, Ok8 C so (ps ++ pn) σ H env O → Hs C H O pn ps vls vs → vls.length = is.length → (∀ i ∈ is, i < env.length) → Ok8 C so pn σ H env O ∧ Ok8 C so pn (setR is vs σ) H (parSet is vls env) O
  | [], [], pn, ps, vs, k, h, _, _ => by obtain ⟨rfl, rfl⟩ := h; exact ⟨k, k⟩
  | _ :: _, [], _, _, _, _, _, hl, _ => by cases hl
  | [], _ :: _, _, _, _, _, _, hl, _ => by cases hl
  | i :: is, .fz d :: vls, pn, ps, vs, k, h, hl, hi => by
    obtain ⟨v, r, rfl, f, h⟩ := h
    obtain ⟨k0, k1⟩ := Ok8.par (is := is) k h (by simpa using hl) fun j hj => hi j (List.mem_cons_of_mem _ hj)
    exact ⟨k0, k1.store ⟨v, rfl, f⟩ (by rw [parSet_len]; exact hi i List.mem_cons_self) fun z => by cases z⟩
  | i :: is, .fr d :: vls, pn, ps, vs, k, h, hl, hi => by
    obtain ⟨a, ho, r, ps', rfl, rfl, c, nb, np, h⟩ := h
    rw [List.append_assoc] at k
    obtain ⟨k0, k1⟩ := Ok8.par (is := is) (pn := (a, ho) :: pn) k h (by simpa using hl) fun j hj => hi j (List.mem_cons_of_mem _ hj)
    obtain ⟨e1, oa, _, no, ns⟩ := k1.pin (a, ho) List.mem_cons_self
    exact ⟨k0.unpin, k1.unpin.store ⟨a, rfl, oa, nb, c⟩ (by rw [parSet_len]; exact hi i List.mem_cons_self) fun _ b e => by cases e; exact ⟨no, ns, np⟩⟩
  | _ :: _, .bw _ :: _, _, _, _, _, h, _, _ => h.elim
  | _ :: _, .sr :: _, _, _, _, _, h, _, _ => h.elim
/-- what the machine does about the order of the stores -/
def bkC (sc : Scope) : ScopeKind := if sc.kind.isAnnotationScope then .function else sc.kind
def isStar : Expr → Bool
  | .Starred .. => true
  | _ => false
def locN (sc : Scope) (line : Nat) : Expr → Option Str
  | .Name id pos => if sc.names.lookup id == some .local && pos.line == line then some id else none
  | _ => none
def swapM (ts vs : List Expr) (sc : Scope) : Option (Option (List Str)) :=
  if !(ts.length == 2 || ts.length == 3) || vs.length != ts.length || bkC sc != .function then some none else
  if vs.any isStar then some none else
  let names := ts.filterMap (locN sc ((ts.head?.map (·.pos.line)).getD 0))
  if names.length != ts.length || names.eraseDups.length != names.length then some none else
  if vs.all (foldedForSure 8) then some none else
  if vs.all (constantsAlone 8) then none else some (some names)
theorem swapM_ok {ts vs : List Expr} {sc : Scope} {env : Env} {n1 n2 : _} {p1 p2 : Pos} {r : Option (List Str)} (hs : env.scope = sc) (h : swapM ts vs sc = some r) : swappedStores [.Tuple ts n1 p1] (.Tuple vs n2 p2) env = pure r := by
  have hb : env.blockKind = bkC sc := by subst hs; rfl
  have hl : ∀ (line : Nat), locN sc line = locN env.scope line := fun _ => by rw [hs]
  unfold swappedStores
  rw [hb]
  change (if (!(ts.length == 2 || ts.length == 3) || vs.length != ts.length || bkC sc != ScopeKind.function) = true then pure none else
    if vs.any isStar = true then pure none else
    if ((ts.filterMap (locN env.scope ((ts.head?.map (·.pos.line)).getD 0))).length != ts.length || (ts.filterMap (locN env.scope ((ts.head?.map (·.pos.line)).getD 0))).eraseDups.length != (ts.filterMap (locN env.scope ((ts.head?.map (·.pos.line)).getD 0))).length) = true then pure none else
    if vs.all (foldedForSure 8) = true then pure none else
    if vs.all (constantsAlone 8) = true then (do
                let __r ← unsupported "assign.tuple-of-constant-expressions:order-of-the-stores"
                (fun (_ : Unit) => pure (some (ts.filterMap (locN env.scope ((ts.head?.map (·.pos.line)).getD 0))))) __r) else pure (some (ts.filterMap (locN env.scope ((ts.head?.map (·.pos.line)).getD 0))))) = (pure r : Sem (Option (List Str)))
  rw [hs]
  unfold swapM at h
  simp only at h
  split at h
  · rename_i h1; cases h; rw [if_pos h1]
  rename_i h1
  rw [if_neg h1]
  split at h
  · rename_i h2; cases h; rw [if_pos h2]
  rename_i h2
  rw [if_neg h2]
  split at h
  · rename_i h3; cases h; rw [if_pos h3]
  rename_i h3
  rw [if_neg h3]
  split at h
  · rename_i h4; cases h; rw [if_pos h4]
  rename_i h4
  rw [if_neg h4]
  split at h
  · cases h
  rename_i h5
  rw [if_neg h5]
  cases h
  rfl
end
end Ev
/-! EvTab: statements, bodies, tables of defs. -/
namespace Ev
open PySem PySem.Spec PyProof.Rows L2
section
variable {X : Cx} {C : Cc} {e a b c : Expr} {es : List Expr} {pos : Pos} {wa we : Wx} {wp : Ev → (List Vl → Ev → Prop) → Prop}
theorem so_par2 {i j : Nat} {x y : Str} {px py pt : Pos} {kt k2 pt2} (hc : X.calm = true) (hN : X.N.Nodup) (hi : X.N[i]? = some x) (hj : X.N[j]? = some y) (hij : i ≠ j) (hx : X.env.scope.names.lookup x = some .local) (hy : X.env.scope.names.lookup y = some .local)
    (ha : PA X [a, b] (tAP C wp)) (hw : swappedStores [.Tuple [.Name x px, .Name y py] kt pt] (.Tuple [a, b] k2 pt2) X.env = pure (some [x, y])) :
    PS X (.Assign [.Tuple [.Name x px, .Name y py] kt pt] (.Tuple [a, b] k2 pt2) pos) (tS C fun env E => wp env fun vs e1 => vs.length = [i, j].length ∧ (∀ z ∈ [i, j], z < e1.length) ∧ E.nx (parSet [i, j] vs e1)) := by
  refine (ps_par hc hN hi hj hij hx hy ha hw).weak fun D σ H ⟨pn, env, O, E, K, W, q, _, _⟩ => ?_
  refine ⟨pn, env, O, _, K, W, fun vls e1 vs H1 O1 ps ⟨hl, hb, w1⟩ k1 h1 s1 => ?_⟩
  obtain ⟨_, k2⟩ := Ok8.par (is := [i, j]) k1 h1 hl hb
  have hv : vs.length = 2 := by rw [h1.len]; exact hl
  match vs, hv with
  | [v, w'], _ =>
    refine ⟨v, w', rfl, ?_⟩
    rw [List.set_comm _ _ hij]
    exact q _ _ _ _ w1 k2 s1
theorem so_par3 {i j l : Nat} {x y z : Str} {px py pz pt : Pos} {kt k2 pt2} (hc : X.calm = true) (hN : X.N.Nodup) (hi : X.N[i]? = some x) (hj : X.N[j]? = some y) (hl : X.N[l]? = some z) (hij : i ≠ j) (hil : i ≠ l) (hjl : j ≠ l) (hx : X.env.scope.names.lookup x = some .local) (hy : X.env.scope.names.lookup y = some .local) (hz : X.env.scope.names.lookup z = some .local)
    (ha : PA X [a, b, c] (tAP C wp)) (hw : swappedStores [.Tuple [.Name x px, .Name y py, .Name z pz] kt pt] (.Tuple [a, b, c] k2 pt2) X.env = pure (some [x, y, z])) :
    PS X (.Assign [.Tuple [.Name x px, .Name y py, .Name z pz] kt pt] (.Tuple [a, b, c] k2 pt2) pos) (tS C fun env E => wp env fun vs e1 => vs.length = [i, j, l].length ∧ (∀ z ∈ [i, j, l], z < e1.length) ∧ E.nx (parSet [i, j, l] vs e1)) := by
  refine (ps_par3 hc hN hi hj hl hij hil hjl hx hy hz ha hw).weak fun D σ H ⟨pn, env, O, E, K, W, q, _, _⟩ => ?_
  refine ⟨pn, env, O, _, K, W, fun vls e1 vs H1 O1 ps ⟨hl', hb, w1⟩ k1 h1 s1 => ?_⟩
  obtain ⟨_, k2⟩ := Ok8.par (is := [i, j, l]) k1 h1 hl' hb
  have hv : vs.length = 3 := by rw [h1.len]; exact hl'
  match vs, hv with
  | [v, w', u], _ =>
    refine ⟨v, w', u, rfl, ?_⟩
    have : ((σ.set i (some v)).set j (some w')).set l (some u) = setR [i, j, l] [v, w', u] σ := by
      show _ = ((σ.set l (some u)).set j (some w')).set i (some v)
      rw [List.set_comm _ _ hij, List.set_comm _ _ hil, List.set_comm _ _ hjl]
    rw [this]
    exact q _ _ _ _ w1 k2 s1
/-- the two stores of an exchange, one by one -/
theorem pg_sto {i : Nat} {x : Str} {wi : Wx} {p2 spos : Pos} (hN : X.N[i]? = some x) (hv : Vis X.env.scope x) (hd : (x == ("__debug__" : Str)) = false) (hc : (x == ("__classdict__" : Str)) = false) (ha : PE X a (tE C wi)) (hp : ixPlain a = true) :
    PG X (.Subscript (.Name x p2) a spos) (fun v σ H Q => ∃ (pn : List (Addr × HO)) (env : Ev) (O : Addr → Prop) (y : D) (n : Ev → Prop), Ok8 C C.so pn σ H env O ∧ Fz C.K H O v y ∧ stoAt wi i y env n ∧ ∀ env' H' O', n env' → Ok8 C C.so pn σ H' env' O' → Step H O H' O' → Q σ H') := by
  refine (pg_sub (pe_var hN hv hd hc) ha set_list (fun v => by cases a <;> first | rfl | cases hp)).weak fun v σ H Q ⟨pn, env, O, d, n, K, f, ⟨⟨ys, ey⟩, W⟩, q⟩ => ?_
  obtain ⟨p, own, op, us, ep0, _⟩ := own_of K ey
  refine ⟨_, own.2, pn, env, O, _, K, W, fun va e3 y H3 O3 ⟨j, ej, w3⟩ k3 v3 s3 => ?_⟩
  subst ej
  cases (show Fz C.K H3 O3 y (.int j) from v3)
  cases hs3 : e3.getD i .no with
  | ow d' =>
    simp only [hs3] at w3
    cases d' with
    | list xs =>
      obtain ⟨m, hm, w4⟩ := w3
      obtain ⟨p', own', op', vs, ep, z, f'⟩ := own_of k3 hs3
      have : p' = p := by have := own'.2.symm.trans own.2; cases this; rfl
      subst this
      refine ⟨p', vs, j, m, rfl, rfl, ep, by rw [f'.length]; exact hm, ?_⟩
      exact q _ _ _ w4 (k3.write own' (list_upd op' (by rw [List.length_set]; exact z) (f'.set m (f.step s3)))) (s3.trans (step_write op'))
    | _ => exact w3.elim
  | _ => simp only [hs3] at w3
theorem so_sto2 {i : Nat} {x : Str} {wi wj : Wx} {p2 spos p2' spos' tp ep : Pos} {n1 n2 : _} (hcm : X.calm = true) (hK : X.K = C.K) (hN : X.N[i]? = some x) (hv : Vis X.env.scope x) (hd : (x == ("__debug__" : Str)) = false) (hc : (x == ("__classdict__" : Str)) = false)
    (ha : PE X a (tE C wi)) (hp : ixPlain a = true) (hb : PE X b (tE C wj)) (hp' : ixPlain b = true) (he : PE X (.Tuple es n2 ep) (tE C we))
    (hw : swappedStores [.Tuple [.Subscript (.Name x p2) a spos, .Subscript (.Name x p2') b spos'] n1 tp] (.Tuple es n2 ep) X.env = pure none) :
    PS X (.Assign [.Tuple [.Subscript (.Name x p2) a spos, .Subscript (.Name x p2') b spos'] n1 tp] (.Tuple es n2 ep) pos) (tS C fun env E => we env fun v e1 => ∃ x y, v = .fz (.tuple [x, y]) ∧ stoAt wi i x e1 fun e2 => stoAt wj i y e2 E.nx) := by
  refine (ps_asg he (pg_tup hcm (pgs_cons (pg_sto hN hv hd hc ha hp) (pgs_cons (pg_sto hN hv hd hc hb hp') pgs_nil))) rfl hw rfl).weak fun D σ H ⟨pn, env, O, E, K, W, q, _, _⟩ => ?_
  refine ⟨pn, env, O, fun v e1 => ∃ x y, v = .fz (.tuple [x, y]) ∧ stoAt wi i x e1 fun e2 => stoAt wj i y e2 E.nx, K, W, fun vl e1 v H1 O1 ⟨x1, y1, ev, w1⟩ k1 v1 s1 => ?_⟩
  · subst ev
    obtain ⟨p, vs, rfl, ev, z, g⟩ := Rp.tup (.inl v1)
    rw [hK]
    cases g with
    | cons f1 g =>
      cases g with
      | cons f2 g =>
        cases g
        refine ⟨p, _, rfl, ev, rfl, _, _, rfl, pn, e1, O1, _, _, k1, f1, w1, fun e2 H2 O2 w2 k2 s2 => ?_⟩
        refine ⟨_, _, rfl, pn, e2, O2, _, _, k2, f2.step s2, w2, fun e3 H3 O3 w3 k3 s3 => ⟨rfl, ?_⟩⟩
        exact q _ _ _ _ w3 k3 (s1.trans (s2.trans s3))
end
/-! ### the checker of statements -/
def locC (N : List Str) (sc : Scope) (cl : Str → Bool) (i : Nat) (y : Str) : Bool := decide (N[i]? = some y) && (match sc.names.lookup y with | some .local => true | some .cell => cl y | _ => false)
def notLc : Expr → Bool
  | .ListComp .. => false
  | .SetComp .. => false
  | .DictComp .. => false
  | _ => true
/-- the comprehension's own road: name = [..] -/
def swC (sc : Scope) (y : Str) (py vpos : Pos) (scope : Scope) : Bool := bkC sc == .function && sc.names.lookup y == some .local && py.line == vpos.line && !(scope.names.any fun (n, k) => n == y && (k == .local || k == .cell))
def isTupTg : Expr → Bool
  | .Tuple .. => true
  | _ => false
def swapN (tgE e : Expr) (sc : Scope) : Bool := match tgE, e with
  | .Tuple ts _ _, .Tuple vs _ _ => (match swapM ts vs sc with | some none => true | _ => false)
  | .Tuple .., _ => true
  | _, _ => false
def chkP (T : Tn) (N : List Str) (sc : Scope) : Ex → List Expr → Bool
  | .nil, [] => true
  | .cons a b, e :: es => plainE e && chk T N a false sc (.inl e) && chkP T N sc b es
  | _, _ => false
def mth (m : String) (N : List Str) (sc : Scope) (i : Nat) (f : Expr) (cpos : Pos) : Bool := match f with
  | .Attribute (.Name y _) n apos => decide (n = Str.ofString m) && slotC N sc i y && (apos.endLine == cpos.line)
  | _ => false
def chkS (T : Tn) (N : List Str) (sc : Scope) (cl : Str → Bool) : Stm → (Stmt ⊕ List Stmt) → Bool
  | .skip => fun x => match x with
    | .inr [] => true
    | _ => false
  | .seq a b => fun x => match x with
    | .inr (st :: rest) => chkS T N sc cl a (.inl st) && chkS T N sc cl b (.inr rest)
    | _ => false
  | .set i e => fun x => match x with
    | .inl (.Assign [.Name y py] v _) => locC N sc cl i y && (match v with
      | .ListComp elt [⟨tgE, iter, ifs, 0⟩] scope vpos => if swC sc y py vpos scope then decide (sc.names.lookup y = some .local) && (match e with
          | .comp own ik it tg t el => chkC T N own ik it tg t el sc elt tgE iter ifs scope
          | _ => false) else chk T N e false sc (.inl v)
      | v => notLc v && chk T N e false sc (.inl v))
    | _ => false
  | .unp tg e => fun x => match x with
    | .inl (.Assign [tgE] v _) => isTupTg tgE && chkG N sc cl tg (.inl tgE) && chk T N e false sc (.inl v) && swapN tgE v sc
    | _ => false
  | .par is e => fun x => match x with
    | .inl (.Assign [.Tuple ts _ _] (.Tuple vs _ _) _) => chkP T N sc e vs && (match is, ts, vs with
      | [i, j], [.Name x _, .Name y _], [_, _] => decide (N[i]? = some x) && decide (N[j]? = some y) && decide (i ≠ j) && decide (sc.names.lookup x = some .local) && decide (sc.names.lookup y = some .local) && decide (swapM ts vs sc = some (some [x, y]))
      | [i, j, l], [.Name x _, .Name y _, .Name z _], [_, _, _] => decide (N[i]? = some x) && decide (N[j]? = some y) && decide (N[l]? = some z) && decide (i ≠ j) && decide (i ≠ l) && decide (j ≠ l) && decide (sc.names.lookup x = some .local) && decide (sc.names.lookup y = some .local) && decide (sc.names.lookup z = some .local) && decide (swapM ts vs sc = some (some [x, y, z]))
      | _, _, _ => false)
    | _ => false
  | .app i e => fun x => match x with
    | .inl (.Expr (.Call f [x] [] cpos) _) => mth "append" N sc i f cpos && plainE x && chk T N e false sc (.inl x)
    | _ => false
  | .ext i e => fun x => match x with
    | .inl (.Expr (.Call f [x] [] cpos) _) => mth "extend" N sc i f cpos && plainE x && chk T N e false sc (.inl x)
    | _ => false
  | .popS i => fun x => match x with
    | .inl (.Expr (.Call f [] [] cpos) _) => mth "pop" N sc i f cpos
    | _ => false
  | .sto i a e => fun x => match x with
    | .inl (.Assign [.Subscript (.Name y _) k _] v _) => slotC N sc i y && ixPlain k && chk T N a false sc (.inl k) && chk T N e false sc (.inl v)
    | _ => false
  | .sto2 i a b e => fun x => match x with
    | .inl (.Assign [.Tuple [.Subscript (.Name y py) k sp, .Subscript (.Name z pz) l sp2] _ _] (.Tuple es n p) _) => decide (y = z) && slotC N sc i y && ixPlain k && ixPlain l && chk T N a false sc (.inl k) && chk T N b false sc (.inl l) && chk T N e false sc (.inl (.Tuple es n p)) &&
        decide (swapM [.Subscript (.Name y py) k sp, .Subscript (.Name z pz) l sp2] es sc = some none)
    | _ => false
  | .ifs t a b => fun x => match x with
    | .inl (.If c x y _) => chk T N t true sc (.inl c) && chkS T N sc cl a (.inr x) && chkS T N sc cl b (.inr y)
    | _ => false
  | .forS ik it tg b => fun x => match x with
    | .inl (.For tgE iter body [] _) => chkG N sc cl tg (.inl tgE) && chkI T N ik it sc tgE iter && notSet iter && chkS T N sc cl b (.inr body) && (!rawI ik || isTt tg)
    | _ => false
  | .whl t b => fun x => match x with
    | .inl (.While c body [] _) => chk T N t true sc (.inl c) && chkS T N sc cl b (.inr body)
    | _ => false
  | .ret e => fun x => match x with
    | .inl (.Return (some v) _) => chk T N e false sc (.inl v)
    | _ => false
  | .brk => fun x => match x with
    | .inl (.Break _) => true
    | _ => false
  | .nev => fun _ => true
  | .rem _ _ => fun _ => false
  | .updD _ _ => fun _ => false
  | .stoD _ _ _ => fun _ => false
  | .aug _ _ => fun _ => false
  | .drop _ => fun _ => false
structure SndS (T : Tn) (N : List Str) (F : Fns) (C : Cc) (st : Stm) : Prop where
  s : ∀ (X : Cx) (sc : Scope) (cl : Str → Bool), Gd T N F C X sc cl → (X.xe = fun _ _ => False) → ∀ x, chkS T N sc cl st (.inl x) = true → PS X x (tS C (wS F st))
  l : ∀ (X : Cx) (sc : Scope) (cl : Str → Bool), Gd T N F C X sc cl → (X.xe = fun _ _ => False) → ∀ x, chkS T N sc cl st (.inr x) = true → PSs X x (tS C (wS F st))
section
variable {T : Tn} {N : List Str} {F : Fns} {C : Cc} {s : Stm} {X : Cx} {sc : Scope} {cl : Str → Bool}
theorem locC_ok (g : Gd T N F C X sc cl) {i : Nat} {y : Str} (h : locC N sc cl i y = true) : X.N.Nodup ∧ X.N[i]? = some y ∧ Loc X.env.scope y ∧ (X.fn y = true ∨ X.env.scope.names.lookup y = some .local) := by
  unfold locC at h
  simp only [Bool.and_eq_true, decide_eq_true_eq] at h
  obtain ⟨h1, h2⟩ := h
  rw [g.hN, g.sc]
  refine ⟨g.nd, h1, ?_, ?_⟩
  · split at h2
    · exact .inl (by assumption)
    · exact .inr (by assumption)
    · cases h2
  · split at h2
    · exact .inr (by assumption)
    · exact .inl (g.fn _ h2)
    · cases h2
theorem sw_not {v : Expr} {y : Option Expr} {n : Nat} {env : Env} (h : notLc v = true) : swapsWith v y n env = pure false := by
  cases v <;> first | rfl | cases h
theorem sw_lc {elt : Expr} {gs : List Comprehension} {scope : Scope} {vpos py : Pos} {y : Str} {n : Nat} (g : Gd T N F C X sc cl) : swapsWith (.ListComp elt gs scope vpos) (some (.Name y py)) n X.env = pure (swC sc y py vpos scope) := by
  have hb : X.env.blockKind = bkC sc := by rw [← g.sc]; rfl
  have hk : X.env.kindOf y = sc.names.lookup y := by rw [← g.sc]; rfl
  unfold swapsWith swC
  rw [hb, ← hk]
  rfl
theorem swapN_ok {tgE e : Expr} (g : Gd T N F C X sc cl) (h : swapN tgE e sc = true) : swappedStores [tgE] e X.env = pure none := by
  unfold swapN at h
  split at h
  · split at h
    · exact swapM_ok g.sc (by assumption)
    · cases h
  · cases e <;> first | rfl | (rename_i hne; exact absurd rfl (hne _ _ _))
  · cases h
theorem sw_tup {tgE e : Expr} {n : Nat} {env : Env} (h : isTupTg tgE = true) : swapsWithSole [tgE] e n env = pure false := by
  cases tgE <;> first | (cases h; done) | skip
  cases e <;> rfl
theorem par_sound (g : Gd T N F C X sc cl) {e : Ex} {es : List Expr} (h : chkP T N sc e es = true) : PA X es (tAP C (wPar F e)) := by
  induction es generalizing e with
  | nil => cases e <;> first | (cases h; done) | exact so_pnil F
  | cons x es ih =>
    cases e <;> first | (cases h; done) | skip
    simp only [chkP, Bool.and_eq_true] at h
    exact so_pcons ((snd _).v X sc cl g _ h.1.2) (ih h.2) (star_plain h.1.1)
theorem mth_ok {m : String} {i : Nat} {f : Expr} {cpos : Pos} (g : Gd T N F C X sc cl) (h : mth m N sc i f cpos = true) : ∃ y p apos, f = .Attribute (.Name y p) (Str.ofString m) apos ∧ X.N[i]? = some y ∧ Vis X.env.scope y ∧ (y == ("__debug__" : Str)) = false ∧ (y == ("__classdict__" : Str)) = false ∧ (apos.endLine == cpos.line) = true := by
  unfold mth at h
  split at h
  · simp only [Bool.and_eq_true, decide_eq_true_eq] at h
    obtain ⟨⟨rfl, h2⟩, h3⟩ := h
    obtain ⟨q1, q2, q3, q4⟩ := slotC_ok g h2
    exact ⟨_, _, _, rfl, q1, q2, q3, q4, h3⟩
  · cases h
theorem SndS.one (h : ∀ (X : Cx) (sc : Scope) (cl : Str → Bool), Gd T N F C X sc cl → (X.xe = fun _ _ => False) → ∀ x, chkS T N sc cl s (.inl x) = true → PS X x (tS C (wS F s))) (hr : ∀ sc cl x, chkS T N sc cl s (.inr x) = true → False) : SndS T N F C s :=
  ⟨h, fun X sc cl g _ x q => (hr sc cl x q).elim⟩
theorem SndS.bot (hl : ∀ sc cl x, chkS T N sc cl s (.inl x) = true → False) (hr : ∀ sc cl x, chkS T N sc cl s (.inr x) = true → False) : SndS T N F C s :=
  ⟨fun X sc cl g _ x q => (hl sc cl x q).elim, fun X sc cl g _ x q => (hr sc cl x q).elim⟩
theorem ss_skip : SndS T N F C .skip := by
  refine ⟨fun X sc cl g _ x h => (by cases h), fun X sc cl g _ x h => ?_⟩
  cases x with
  | nil => exact so_skip F
  | cons _ _ => cases h
theorem ss_seq {a b : Stm} (ha : SndS T N F C a) (hb : SndS T N F C b) : SndS T N F C (.seq a b) := by
  refine ⟨fun X sc cl g _ x h => (by cases h), fun X sc cl g hx x h => ?_⟩
  cases x with
  | nil => cases h
  | cons st rest =>
    simp only [chkS, Bool.and_eq_true] at h
    exact so_seq (wa := wS F a) (wb := wS F b) (ha.s X sc cl g hx _ h.1) (hb.l X sc cl g hx _ h.2)
theorem ss_set {i : Nat} {e : Ex} : SndS T N F C (.set i e) := by
  refine .one (fun X sc cl g hx x h => ?_) (fun _ _ _ h => by cases h)
  unfold chkS at h
  split at h <;> first | (cases h; done) | skip
  rename_i y py v p h1
  cases h1
  simp only [Bool.and_eq_true] at h
  obtain ⟨hl, h⟩ := h
  obtain ⟨l1, l2, l3, l4⟩ := locC_ok g hl
  split at h
  · rename_i elt tgE iter ifs scope vpos
    split at h
    · rename_i hsw
      simp only [Bool.and_eq_true, decide_eq_true_eq] at h
      obtain ⟨hlo, h⟩ := h
      split at h
      · rename_i own ik it tg t el
        have c := compOk g (snd it) (snd t) (snd el) h
        have := so_setLc (py := py) (spos := p) (wl := w F el) (wi := w F it) g.K g.calm l1 l2 (by rw [g.sc]; exact hlo) (by rw [sw_lc g, hsw]) c.hi c.ok c.hg c.ht c.he c.st c.sub c.raw
        rw [own_map] at this
        exact this
      · cases h
    · rename_i hsw
      refine so_set l1 l2 l3 l4 ((snd e).v X sc cl g _ h) ?_
      rw [sw_lc g]
      simp only [Bool.not_eq_true] at hsw
      rw [hsw]
  · simp only [Bool.and_eq_true] at h
    exact so_set l1 l2 l3 l4 ((snd e).v X sc cl g _ h.2) (sw_not h.1)
theorem ss_unp {tg : Tg} {e : Ex} : SndS T N F C (.unp tg e) := by
  refine .one (fun X sc cl g hx x h => ?_) (fun _ _ _ h => by cases h)
  unfold chkS at h
  split at h <;> first | (cases h; done) | skip
  rename_i h1
  cases h1
  simp only [Bool.and_eq_true] at h
  obtain ⟨⟨⟨h1, h2⟩, h3⟩, h4⟩ := h
  refine so_unp ((snd e).v X sc cl g _ h3) ((tg_sound tg).1 X sc cl g _ h2) (sw_tup h1) (swapN_ok g h4) ?_
  rename_i tgE _ _
  cases tgE <;> first | rfl | cases h1
theorem ss_par {is : List Nat} {e : Ex} : SndS T N F C (.par is e) := by
  refine .one (fun X sc cl g hx x h => ?_) (fun _ _ _ h => by cases h)
  unfold chkS at h
  split at h <;> first | (cases h; done) | skip
  rename_i h1
  cases h1
  simp only [Bool.and_eq_true] at h
  obtain ⟨hp, h⟩ := h
  split at h
  · simp only [Bool.and_eq_true, decide_eq_true_eq] at h
    obtain ⟨⟨⟨⟨⟨h1, h2⟩, h3⟩, h4⟩, h5⟩, h6⟩ := h
    exact so_par2 g.calm (by rw [g.hN]; exact g.nd) (by rw [g.hN]; exact h1) (by rw [g.hN]; exact h2) h3 (by rw [g.sc]; exact h4) (by rw [g.sc]; exact h5) (par_sound g hp) (swapM_ok g.sc h6)
  · simp only [Bool.and_eq_true, decide_eq_true_eq] at h
    obtain ⟨⟨⟨⟨⟨⟨⟨⟨⟨h1, h2⟩, h3⟩, h4⟩, h5⟩, h6⟩, h7⟩, h8⟩, h9⟩, h10⟩ := h
    exact so_par3 g.calm (by rw [g.hN]; exact g.nd) (by rw [g.hN]; exact h1) (by rw [g.hN]; exact h2) (by rw [g.hN]; exact h3) h4 h5 h6 (by rw [g.sc]; exact h7) (by rw [g.sc]; exact h8) (by rw [g.sc]; exact h9) (par_sound g hp) (swapM_ok g.sc h10)
  · cases h
theorem ss_app {i : Nat} {e : Ex} : SndS T N F C (.app i e) := by
  refine .one (fun X sc cl g hx x h => ?_) (fun _ _ _ h => by cases h)
  unfold chkS at h
  split at h <;> first | (cases h; done) | skip
  rename_i h1
  cases h1
  simp only [Bool.and_eq_true] at h
  obtain ⟨⟨h1, h2⟩, h3⟩ := h
  obtain ⟨y, p, apos, rfl, q1, q2, q3, q4, q5⟩ := mth_ok g h1
  exact so_app q1 q2 q3 q4 q5 h2 ((snd e).v X sc cl g _ h3)
theorem ss_ext {i : Nat} {e : Ex} : SndS T N F C (.ext i e) := by
  refine .one (fun X sc cl g hx x h => ?_) (fun _ _ _ h => by cases h)
  unfold chkS at h
  split at h <;> first | (cases h; done) | skip
  rename_i h1
  cases h1
  simp only [Bool.and_eq_true] at h
  obtain ⟨⟨h1, h2⟩, h3⟩ := h
  obtain ⟨y, p, apos, rfl, q1, q2, q3, q4, q5⟩ := mth_ok g h1
  exact so_ext g.K q1 q2 q3 q4 q5 h2 ((snd e).v X sc cl g _ h3)
theorem ss_popS {i : Nat} : SndS T N F C (.popS i) := by
  refine .one (fun X sc cl g hx x h => ?_) (fun _ _ _ h => by cases h)
  unfold chkS at h
  split at h <;> first | (cases h; done) | skip
  rename_i h1
  cases h1
  obtain ⟨y, p, apos, rfl, q1, q2, q3, q4, q5⟩ := mth_ok g h
  exact so_popS q1 q2 q3 q4 q5 F
theorem ss_sto {i : Nat} {a e : Ex} : SndS T N F C (.sto i a e) := by
  refine .one (fun X sc cl g hx x h => ?_) (fun _ _ _ h => by cases h)
  unfold chkS at h
  split at h <;> first | (cases h; done) | skip
  rename_i h1
  cases h1
  simp only [Bool.and_eq_true] at h
  obtain ⟨⟨⟨h1, h2⟩, h3⟩, h4⟩ := h
  obtain ⟨q1, q2, q3, q4⟩ := slotC_ok g h1
  refine so_sto q1 q2 q3 q4 ((snd e).v X sc cl g _ h4) ((snd a).v X sc cl g _ h3) (fun v => ?_) ?_
  · rename_i k _ _ _; cases k <;> first | rfl | cases h2
  · rename_i v _; cases v <;> rfl
theorem ss_sto2 {i : Nat} {a b e : Ex} : SndS T N F C (.sto2 i a b e) := by
  refine .one (fun X sc cl g hx x h => ?_) (fun _ _ _ h => by cases h)
  unfold chkS at h
  split at h <;> first | (cases h; done) | skip
  rename_i h1
  cases h1
  simp only [Bool.and_eq_true, decide_eq_true_eq] at h
  obtain ⟨⟨⟨⟨⟨⟨⟨rfl, h1⟩, h2⟩, h3⟩, h4⟩, h5⟩, h6⟩, h7⟩ := h
  obtain ⟨q1, q2, q3, q4⟩ := slotC_ok g h1
  refine so_sto2 g.calm g.K q1 q2 q3 q4 ((snd a).v X sc cl g _ h4) h2 ((snd b).v X sc cl g _ h5) h3 ((snd e).v X sc cl g _ h6) (swapM_ok g.sc h7)
theorem ss_ifs {t : Ex} {a b : Stm} (ha : SndS T N F C a) (hb : SndS T N F C b) : SndS T N F C (.ifs t a b) := by
  refine .one (fun X sc cl g hx x h => ?_) (fun _ _ _ h => by cases h)
  unfold chkS at h
  split at h <;> first | (cases h; done) | skip
  rename_i h1
  cases h1
  simp only [Bool.and_eq_true] at h
  exact so_if ((snd t).t X sc cl g _ h.1.1) (ha.l X sc cl g hx _ h.1.2) (hb.l X sc cl g hx _ h.2)
theorem ss_for {ik : Ik} {it : Ex} {tg : Tg} {b : Stm} (hb : SndS T N F C b) : SndS T N F C (.forS ik it tg b) := by
  refine .one (fun X sc cl g hx x h => ?_) (fun _ _ _ h => by cases h)
  unfold chkS at h
  split at h <;> first | (cases h; done) | skip
  rename_i h1
  cases h1
  simp only [Bool.and_eq_true] at h
  obtain ⟨⟨⟨⟨h1, h2⟩, h3⟩, h4⟩, h5⟩ := h
  exact so_for hx g.calm (it_sound g (snd it) h2) ((tg_sound tg).1 X sc cl g _ h1) (hb.l X sc cl g hx _ h4) (notSet_ok h3) (raw_ok h5)
theorem ss_whl {t : Ex} {b : Stm} (hb : SndS T N F C b) : SndS T N F C (.whl t b) := by
  refine .one (fun X sc cl g hx x h => ?_) (fun _ _ _ h => by cases h)
  unfold chkS at h
  split at h <;> first | (cases h; done) | skip
  rename_i h1
  cases h1
  simp only [Bool.and_eq_true] at h
  exact so_while hx ((snd t).t X sc cl g _ h.1) (hb.l X sc cl g hx _ h.2)
theorem ss_ret {e : Ex} : SndS T N F C (.ret e) := by
  refine .one (fun X sc cl g hx x h => ?_) (fun _ _ _ h => by cases h)
  unfold chkS at h
  split at h <;> first | (cases h; done) | skip
  rename_i h1
  cases h1
  exact so_ret ((snd e).v X sc cl g _ h)
theorem ss_brk : SndS T N F C .brk := by
  refine .one (fun X sc cl g hx x h => ?_) (fun _ _ _ h => by cases h)
  unfold chkS at h
  split at h <;> first | (cases h; done) | skip
  rename_i h1
  cases h1
  exact so_brk F
theorem ss_nev : SndS T N F C .nev :=
  ⟨fun X sc cl g hx x h => so_nev F, fun X sc cl g hx x h => pss_never.weak fun D σ H ⟨_, _, _, _, _, W, _⟩ => W.elim⟩
theorem snds : ∀ s : Stm, SndS T N F C s
  | .skip => ss_skip
  | .seq a b => ss_seq (snds a) (snds b)
  | .set _ _ => ss_set
  | .unp _ _ => ss_unp
  | .par _ _ => ss_par
  | .app _ _ => ss_app
  | .ext _ _ => ss_ext
  | .rem _ _ => .bot (fun _ _ _ h => by cases h) (fun _ _ _ h => by cases h)
  | .popS _ => ss_popS
  | .updD _ _ => .bot (fun _ _ _ h => by cases h) (fun _ _ _ h => by cases h)
  | .sto _ _ _ => ss_sto
  | .sto2 _ _ _ _ => ss_sto2
  | .stoD _ _ _ => .bot (fun _ _ _ h => by cases h) (fun _ _ _ h => by cases h)
  | .aug _ _ => .bot (fun _ _ _ h => by cases h) (fun _ _ _ h => by cases h)
  | .ifs _ a b => ss_ifs (snds a) (snds b)
  | .forS _ _ _ b => ss_for (snds b)
  | .whl _ b => ss_whl (snds b)
  | .ret _ => ss_ret
  | .brk => ss_brk
  | .drop _ => .bot (fun _ _ _ h => by cases h) (fun _ _ _ h => by cases h)
  | .nev => ss_nev
end
end Ev
/-! EvTop: a table of defs keeps its promises; the law's own def. -/
namespace Ev
open PySem PySem.Spec PyProof.Rows L2

/-- what is known of the defs' world -/
structure Wd (mg : Str → Option Value) (T : Tn) : Prop where
  bl : ∀ x ∈ bltNames, mg (Str.ofString x) = none
  gcd : T.gcd = true → mg "gcd" = some (.builtin "math.gcd")
/-- a def of the table, as the text has it -/
structure DfOk (K : PySem.W.Frag) (mg : Str → Option Value) (T : Tn) (x : Str) (s : Bool) (d : Df) : Prop where
  ex : ∃ (f : Addr) (fd : FuncData) (qual : Str) (params : Arguments) (body : List Stmt) (scope : Scope) (N ps : List Str), mg x = some (.ref f) ∧ FunD K x qual params body scope [] [] f fd ∧ Binds K fd ps [] ∧
    FnScope N ps scope ∧ ps.length = d.par ∧ d.par ≤ d.slots ∧ N.length = d.slots ∧ chkS T N scope (fun _ => true) d.body (.inr body) = true
  src : d.src = s
  dbg : (x == ("__debug__" : Str)) = false
structure FnT (P : Program) (w : World) (K : PySem.W.Frag) (mg : Str → Option Value) (base : Heap) (x : Str) (s : Bool) (g : Fn) : Prop where
  ex : ∃ (n : Nat), (∀ k, ∃ (f : Addr) (fd : FuncData) (ps : List Str), mg x = some (.ref f) ∧ PySem.W.keepIn K (.ref f) = true ∧ Binds K fd ps [] ∧ FnG P w K mg base (k + 1) f fd ps (spD K n s g)) ∧ ∀ ds k, g ds k → ds.length + (if s = true then 1 else 0) = n
  dbg : (x == ("__debug__" : Str)) = false
/-- all calls that a text may make, at a level -/
structure Tok (P : Program) (w : World) (K : PySem.W.Frag) (mg : Str → Option Value) (base : Heap) (T : Tn) (tb : Nat → Option Tb) : Prop where
  wd : Wd mg T
  seer : base.NoSeer
  tree : P.given.tree = none
  df : ∀ f x s, T.nm f = some (x, s) → (∃ d, tb f = some (.df d) ∧ DfOk K mg T x s d) ∨ ∃ g, tb f = some (.fn g) ∧ FnT P w K mg base x s g
section
variable {P : Program} {w : World} {K : PySem.W.Frag} {mg : Str → Option Value} {base : Heap} {T : Tn} {tb : Nat → Option Tb}
/-- what a level has proved -/
def Lvl (P : Program) (w : World) (K : PySem.W.Frag) (mg : Str → Option Value) (base : Heap) (T : Tn) (F : Fns) (k : Nat) : Prop := ∀ f x s, T.nm f = some (x, s) → (x == ("__debug__" : Str)) = false ∧ ∃ n, (∃ (fa : Addr) (fd : FuncData) (ps : List Str), mg x = some (.ref fa) ∧ PySem.W.keepIn K (.ref fa) = true ∧ Binds K fd ps [] ∧
  FnG P w K mg base k fa fd ps (spD K n s (F f))) ∧ ∀ ds kk, F f ds kk → ds.length + (if s = true then 1 else 0) = n
theorem gd_of {F : Fns} {k : Nat} {N : List Str} {sc : Scope} (wd : Wd mg T) (L : Lvl P w K mg base T F k) (nd : N.Nodup) {X : Cx} {C : Cc} (h1 : X.prog = P) (h2 : X.w = w) (h3 : X.K = K) (h4 : X.mg = mg) (h5 : X.base = base) (h6 : X.N = N) (h7 : X.env.scope = sc) (h8 : X.calm = true) (hr : Room k X.A) (hg : X.A.guards = some []) (hf : ∀ y, X.fn y = true) (hK : C.K = K) (hs : base.NoSeer) (ht : P.given.tree = none) (hfr : FrOk X.A) (h32 : 32 ≤ k) :
    Gd T N F C X sc (fun _ => true) := by
  refine ⟨h6, nd, h7, h8, h3.trans hK.symm, ⟨k, hr⟩, ⟨by rw [h5]; exact hs, by rw [h1]; exact ht, hfr, by have := hr.dp; show X.A.depth + 100 < recursionLimit; omega⟩, hg, fun y _ => hf y, by rw [h4]; exact wd.bl, by rw [h4]; exact wd.gcd, fun f x s h => ?_⟩
  obtain ⟨dbg, n, e, ar⟩ := L f x s h
  exact ⟨k, n, hr, ⟨by rw [h1, h2, h3, h4, h5]; exact e, dbg, ar⟩⟩
theorem lvl (t : Tok P w K mg base T tb) : ∀ k, Lvl P w K mg base T (callN tb k) (k + 32)
  | 0 => fun f x s h => by
    rcases t.df f x s h with ⟨d, _, q⟩ | ⟨g, _, q⟩
    · obtain ⟨fa, fd, qual, params, body, scope, N, ps, hm, Fu, hb, S, hps, _⟩ := q.ex
      exact ⟨q.dbg, d.par, ⟨fa, fd, ps, hm, Fu.kp, hb, ⟨fun vs H Q E z => z.1.trans hps.symm, fun A outer s H args us vs Q E _ _ _ _ _ z => by obtain ⟨_, _, _, _, _, _, _, _, _, _, _, _, z, _⟩ := z; exact z.elim⟩⟩, fun _ _ z => z.elim⟩
    · obtain ⟨n, e, _⟩ := q.ex
      obtain ⟨fa, fd, ps, hm, kp, hb, _⟩ := e 31
      exact ⟨q.dbg, ps.length, ⟨fa, fd, ps, hm, kp, hb, ⟨fun vs H Q E z => z.1, fun A outer s H args us vs Q E _ _ _ _ _ z => by obtain ⟨_, _, _, _, _, _, _, _, _, _, _, _, z, _⟩ := z; exact z.elim⟩⟩, fun _ _ z => z.elim⟩
  | k + 1 => fun f x s h => by
    have L := lvl t k
    rcases t.df f x s h with ⟨d, e, q⟩ | ⟨g, e, q⟩
    · obtain ⟨fa, fd, qual, params, body, scope, N, ps, hm, Fu, hb, S, hps, hp, hN, hc⟩ := q.ex
      have eF : callN tb (k + 1) f = run (callN tb k) d := by funext xs kk; simp only [callN, e]
      refine ⟨q.dbg, d.par, ⟨fa, fd, ps, hm, Fu.kp, hb, ?_⟩, fun ds kk z => ?_⟩
      · rw [eF, ← q.src, show k + 1 + 32 = k + 32 + 1 from by omega]
        exact fn_g Fu S hps hp hN fun X C h1 h2 h3 h4 h5 h6 h7 h8 hx hr hg hf hK hfr => (snds d.body).l X _ _ (gd_of t.wd L S.nd h1 h2 h3 h4 h5 h6 h7 h8 hr hg hf hK t.seer t.tree hfr (by omega)) hx _ hc
      · rw [eF] at z
        rw [← q.src]
        exact z.1
    · obtain ⟨n, ex, ar⟩ := q.ex
      have eF : callN tb (k + 1) f = g := by funext xs kk; simp only [callN, e]
      obtain ⟨fa, fd, ps, hm, kp, hb, G⟩ := ex (k + 32)
      exact ⟨q.dbg, n, ⟨fa, fd, ps, hm, kp, hb, by rw [eF, show k + 1 + 32 = k + 32 + 1 from by omega]; exact G⟩, by rw [eF]; exact ar⟩
end
end Ev
/-! EvSrc: the source of draws. -/
namespace Ev
open PySem PySem.Spec PyProof.Rows L2

/-- the source's dict -/
def sd (c : Addr) (l m t : Int) : List (Key × V) := [(.inr "cells", .ref c), (.inr "left", .int l), (.inr "mixed", .int m), (.inr "turn", .int t)]
section
variable {c : Addr} {l m t z : Int}
theorem nk {a b : Str} (h : ¬ a = b) : ¬ ((Sum.inr a : Key) = Sum.inr b) := fun e => h (Sum.inr.inj e)
theorem k_cl : ¬ ("cells" : Str) = "left" := by decide +kernel
theorem k_cm : ¬ ("cells" : Str) = "mixed" := by decide +kernel
theorem k_ct : ¬ ("cells" : Str) = "turn" := by decide +kernel
theorem k_lm : ¬ ("left" : Str) = "mixed" := by decide +kernel
theorem k_lt : ¬ ("left" : Str) = "turn" := by decide +kernel
theorem k_mt : ¬ ("mixed" : Str) = "turn" := by decide +kernel
theorem sd_cells : valV (sd c l m t) (.inr "cells") = some (.ref c) := valV_pos rfl
theorem sd_left : valV (sd c l m t) (.inr "left") = some (.int l) := by
  unfold sd
  rw [valV_neg (nk k_cl), valV_pos rfl]
theorem sd_mixed : valV (sd c l m t) (.inr "mixed") = some (.int m) := by
  unfold sd
  rw [valV_neg (nk k_cm), valV_neg (nk k_lm), valV_pos rfl]
theorem sd_turn : valV (sd c l m t) (.inr "turn") = some (.int t) := by
  unfold sd
  rw [valV_neg (nk k_ct), valV_neg (nk k_lt), valV_neg (nk k_mt), valV_pos rfl]
theorem sd_pl : putK (sd c l m t) (.inr "left") (.int z) = sd c z m t := by
  unfold putK
  rw [if_pos]
  · unfold sd
    simp only [List.map, if_neg (nk k_cl), if_neg (nk (Ne.symm k_lm)), if_neg (nk (Ne.symm k_lt)), if_true]
  · simp [sd]
theorem sd_pm : putK (sd c l m t) (.inr "mixed") (.int z) = sd c l z t := by
  unfold putK
  rw [if_pos]
  · unfold sd
    simp only [List.map, if_neg (nk k_cm), if_neg (nk k_lm), if_neg (nk (Ne.symm k_mt)), if_true]
  · simp [sd]
theorem sd_pt : putK (sd c l m t) (.inr "turn") (.int z) = sd c l m z := by
  unfold putK
  rw [if_pos]
  · unfold sd
    simp only [List.map, if_neg (nk k_ct), if_neg (nk k_lt), if_neg (nk k_mt), if_true]
  · simp [sd]
end
theorem _root_.L2.FnOk.toG {P : Program} {w : World} {K : PySem.W.Frag} {mg : Str → Option Value} {base : Heap} {k : Nat} {f : Addr} {fd : FuncData} {ps : List Str} {sp : Sp} (F : FnOk P w K mg base CX0 k f fd ps sp) : FnG P w K mg base k f fd ps sp :=
  ⟨F.len, fun A outer s H args us vs Q E hr _ e0 hb r h => F.run A outer s H args us vs Q E hr e0 hb r h⟩
/-- what a draw gives: any number below many -/
def pickF : Fn := fun xs k => ∃ m : Int, xs = [.int m] ∧ (0 ≤ m ∧ m ≤ 1000000) ∧ ∀ r : Int, 0 ≤ r → r < (if m < 1 then 1 else m) → k false (.int r)
/-- the promise of the draw: the source stays a source -/
def spPick : Sp := fun vs H Q _ => ∃ (p c : Addr) (m : Int), vs = [.ref p, .int m] ∧ SrcOk H p c ∧ (0 ≤ m ∧ m ≤ 1000000) ∧ ∀ (r : Int) (H' : Hp), 0 ≤ r → r < (if m < 1 then 1 else m) → (∀ a o, H a = some o → a ≠ p → a ≠ c → H' a = some o) → SrcOk H' p c → Q (.int r) H'
theorem pick_sp {K : PySem.W.Frag} {vs : List V} {H : Hp} {Q : VK} {E : XK} (h : spD K 2 true pickF vs H Q E) : spPick vs H Q E := by
  obtain ⟨_, C, ds, ws, kk, hK, hH, h0, hS, hsrc, hvs, fz, ⟨m, rfl, hm, hk⟩, hq⟩ := h
  simp only [if_true] at hvs
  obtain ⟨p, c, ec, rfl⟩ := hvs
  cases fz with
  | cons f g =>
    cases g
    cases fz_int f
    refine ⟨p, c, m, rfl, hsrc p c ec, hm, fun r H' h1 h2 keep s => hq _ _ _ _ (hk r h1 h2) ⟨fun a o e n => keep a o (by rw [← hH]; exact e) (fun z => n ⟨p, c, ec, .inl z⟩) fun z => n ⟨p, c, ec, .inr z⟩, fun p' c' e => by rw [ec] at e; cases e; exact s, fun _ => .int _, fun z => by cases z⟩⟩
/-- the promise of the source's def -/
def spSrc (K : PySem.W.Frag) : Sp := fun vs H Q _ => ∃ (a : Addr) (ns : List Int), vs = [.ref a] ∧ SqL K H a (ns.map V.int) ∧ ns.length ≤ 63 ∧ ∀ (p c : Addr) (H' : Hp), (∀ b o, H b = some o → H' b = some o) → H p = none → H c = none → SrcOk H' p c → Q (.ref p) H'
end Ev
/-! EvLaw: the law's own def, and the end. -/
namespace Ev
open PySem PySem.Spec PyProof.Rows L2

def spLaw (K : PySem.W.Frag) : Sp := fun vs H Q _ => ∃ (a : Addr) (ns : List Int), vs = [.ref a] ∧ SqL K H a (ns.map V.int) ∧ ns.length ≤ 63 ∧ ∀ H', Q (.bl true) H'
def lawEnv (n : Nat) : Ev := .no :: .src :: List.replicate (n - 2) .no
def lawEn : En := { nx := fun _ => False, rt := fun fr d => fr = false ∧ d = .bool true }
theorem lawEnv_get {n i : Nat} : (lawEnv n).getD i .no = if i = 1 then .src else .no := by
  match i with
  | 0 => rfl
  | 1 => rfl
  | i + 2 =>
    show (Sl.no :: Sl.src :: List.replicate (n - 2) Sl.no).getD (i + 2) .no = _
    simp only [List.getD_eq_getElem?_getD, List.getElem?_cons_succ, List.getElem?_replicate]
    rw [if_neg (show ¬ i + 2 = 1 by omega)]
    split <;> rfl
theorem law_ok8 {K : PySem.W.Frag} {H : Hp} {p c a : Addr} {N : List Str} (hn : 2 ≤ N.length) (src : SrcOk H p c) : Ok8 ⟨K, H, fun b => H b ≠ none, some (p, c)⟩ (some (p, c)) [] ((L2.start N [.ref a]).set 1 (some (.ref p))) H (lawEnv N.length) (fun b => H b ≠ none) := by
  have noOwn : ∀ i b, ¬ OwnAt ((L2.start N [.ref a]).set 1 (some (.ref p))) (lawEnv N.length) i b := fun i b ⟨h1, _⟩ => by
    rw [lawEnv_get] at h1
    split at h1 <;> cases h1
  have sm : ∀ {b : Addr}, H b ≠ none → ∃ o, H b = some o := fun {b} h => by
    cases e : H b with
    | none => exact absurd e h
    | some o => exact ⟨o, rfl⟩
  have hp : H p ≠ none := by obtain ⟨o, e⟩ := src.at1; rw [e]; simp
  have hc : H c ≠ none := by obtain ⟨o, e⟩ := src.at2; rw [e]; simp
  refine ⟨?_, fun i => ?_, fun i j b x _ => absurd x (noOwn i b), fun b o e _ => e, fun b h => sm h, fun b h => h, fun b h => sm h, fun p' c' e => ?_, fun b ⟨p', c', e, z⟩ => ?_, fun q hq => by cases hq⟩
  · unfold L2.start lawEnv
    simp; omega
  · rw [lawEnv_get]
    split
    · rename_i e; subst e
      refine ⟨p, c, rfl, ?_⟩
      rw [List.getElem?_set]
      have : 1 < (L2.start N [V.ref a]).length := by unfold L2.start; simp; omega
      simp [this]
    · trivial
  · cases e
    exact ⟨src, hp, hc, .inl ⟨⟨p, c, rfl, .inl rfl⟩, ⟨p, c, rfl, .inr rfl⟩⟩, fun i b h => absurd h (noOwn i b)⟩
  · cases e
    rcases z with rfl | rfl
    · exact hp
    · exact hc
section
variable {P : Program} {w : World} {K : PySem.W.Frag} {mg : Str → Option Value} {base : Heap} {T : Tn} {tb : Nat → Option Tb}
theorem law_fn {f fs : Addr} {fd fds : FuncData} {qual : Str} {params : Arguments} {st0 : Stmt} {rest : List Stmt} {scope : Scope} {N : List Str} {body : Stm} {n : Nat} {p1 p2 p3 p4 p5 : Pos} (t : Tok P w K mg base T tb) (Fu : FunD K "law" qual params (st0 :: rest) scope [] [] f fd) (S : FnScope N ["script"] scope)
    (hN0 : N[0]? = some ("script" : Str)) (hN1 : N[1]? = some ("source" : Str)) (hsc : scope.names.lookup ("script" : Str) = some .local) (hso : scope.names.lookup ("source" : Str) = some .local ∨ scope.names.lookup ("source" : Str) = some .cell) (hgl : scope.names.lookup ("_law_source" : Str) = some .globalImplicit)
    (hst : st0 = .Assign [.Name "source" p1] (.Call (.Name "_law_source" p2) [.Name "script" p3] [] p4) p5) (FS : ∀ k, FnOk P w K mg base CX0 (k + 1) fs fds ["script"] (spSrc K)) (bS : Binds K fds ["script"] []) (mS : mg "_law_source" = some (.ref fs)) (kS : PySem.W.keepIn K (.ref fs) = true)
    (hc : chkS T N scope (fun _ => true) body (.inr rest) = true) (data : wS (callN tb (n + 1)) body (lawEnv N.length) lawEn) : FnG P w K mg base (n + 34) f fd ["script"] (spLaw K) := by
  obtain ⟨oc, od, dV, kV, doc, pm, an, cdv, ct, osl, rfl, lk, hcd, _, _⟩ := Fu.ex
  have len : ∀ vs H Q E, spLaw K vs H Q E → vs.length = 1 := fun vs H Q E ⟨a, ns, e, _⟩ => by rw [e]; rfl
  refine ⟨len, fun A outer s H args us vs Q E hr hgd e0 hb r hsp => ?_⟩
  have hl := len _ _ _ _ hsp
  have inK : K.In s.heap := e0.mod.kin.keeps fun b o e => (e0.bs b o e).1
  have noLim : s.heap.NoLimit := e0.mod.nolimit.keeps fun b o e => (e0.bs b o e).1
  refine codeAny_call_function hr.depth (inK _ _ lk) rfl S.co S.gen rfl (PySem.W.codeRec_of inK hcd) (hb _ _ _ _ ?_)
  refine wpAny_newFunctionEnv_cells S.kind (fun y hy => .inl ?_) fun env he s1 xx => ?_
  · have : y.1 ∈ (["script"] : List Str) := (List.of_mem_zip (a := y.1) (b := y.2) hy).1
    rw [List.mem_singleton.mp this]; exact hsc
  subst he
  refine ⟨noLim.keeps xx.toInCall.keep, codeAny_func ?_⟩
  let X : Cx := (cxOf CX0 P w K mg base N qual scope f cdv A outer s H E).nox
  have hr1 : Room (n + 1 + 32) X.A := hr.deeper _
  obtain ⟨a, ns, rfl, hS, hlen, q⟩ := hsp
  have L := lvl t (n + 1)
  have B : PSs X rest (fun D σ H => ∃ C : Cc, C.K = K ∧ tS C (wS (callN tb (n + 1)) body) D σ H) := by
    refine ⟨fun pins s σ H D I ⟨C, hC, h⟩ => ?_⟩
    exact ((snds body).l X scope _ (gd_of t.wd L S.nd rfl rfl rfl rfl rfl rfl rfl rfl hr1 (guards_deeper hgd) (fun _ => rfl) hC t.seer t.tree ⟨_, _, Around.frames_deeper e0.frames, S.gen, S.co, rfl, rfl⟩ (by omega)) rfl _ hc).run pins s σ H D I h
  subst hst
  have A1 : PS X (.Assign [.Name "source" p1] (.Call (.Name "_law_source" p2) [.Name "script" p3] [] p4) p5) _ := ps_set (i := 1) S.nd hN1 hso (pe_call (FS (n + 32)) hr1 hgl mS kS bS .nil pass0 (pa_cons (pv 0 hN0 (.inl hsc)) pa_nil)) rfl (.inl rfl)
  have B1 := pss_cons A1 B
  have I0 : Inv (cxOf CX0 P w K mg base N qual scope f cdv A outer s H E) [] (L2.start N [V.ref a]) H s1 := inv_start S hr.hd e0 hl r xx
  have h0 : (L2.start N [V.ref a])[0]? = some (some (V.ref a)) := rfl
  have hn : 2 ≤ N.length := (List.getElem?_eq_some_iff.mp hN1).1
  refine wpAny_mono (B1.nox.run [] s1 (L2.start N [V.ref a]) H { nx := fun _ H' => Q .non H', rt := Q } I0 ?_) (fun fl s' hs => ?_) fun e s' hs => hs
  · refine ⟨_, h0, a, ns, rfl, hS, hlen, fun p c H' keep np nc src => ?_⟩
    refine ⟨⟨K, H', fun b => H' b ≠ none, some (p, c)⟩, rfl, [], _, _, lawEn, law_ok8 hn src, data, fun _ _ _ _ z _ _ => z.elim, fun _ _ _ _ z _ _ => z.elim, fun fr d v H2 ⟨z1, z2⟩ rk => ?_⟩
    subst z1 z2
    have fv := rk.old rfl
    cases fv
    exact q H2
  cases fl with
  | ret u =>
    obtain ⟨v, σ', H', J, rv, z⟩ := hs
    exact ⟨v, H', J.os, J.bare, J.base, J.hok, rv, z⟩
  | next =>
    obtain ⟨σ', H', J, z⟩ := hs
    exact ⟨.non, H', J.os, J.bare, J.base, J.hok, rfl, z⟩
  | brk => obtain ⟨_, _, _, z⟩ := hs; exact z.elim
  | cont => obtain ⟨_, _, _, z⟩ := hs; exact z.elim
end
end Ev
/-! EvEnd: from the law's promise to the row. -/
namespace Ev
open PySem PySem.Spec PyProof.Rows L2

section
variable {P : Program} {w : World} {K : PySem.W.Frag} {mg mb : Str → Option Value} {k : Nat} {fa a : Addr} {fd : FuncData} {st : Shared} {vs : List Value} {ns : List Int}
/-- the world ahead of the law's call: H tracks the script at most, as it stands -/
theorem world0 {H : Hp} (inK : K.In st.heap) (gl : st.heap.Ns mainGlobals mg) (bu : st.heap.Ns builtinsNs mb) (bb : ∀ x : Str, x ≠ "__name__" → mb x = bootBuiltins x) (noL : st.heap.NoLimit) (noS : st.heap.NoSeer) (gens : st.gens = #[])
    (obj : st.heap.get? a = some { cls := .type "list", data := .seq vs.toArray }) (ok : HOk P w H st.heap) (one : ∀ b, H b ≠ none → b = a) (free : H a ≠ none → K.lookup a = none) :
    K.In (hidT st.heap H) ∧ (hidT st.heap H).Ns mainGlobals mg ∧ (hidT st.heap H).NoSeer ∧ Env0 P w K mg (hidT st.heap H) callerA [] st H := by
  have other : ∀ {b : Addr}, b ≠ a → H b = none := fun {b} n => by
    rcases hq : H b with _ | u
    · rfl
    · exact absurd (one b (by rw [hq]; simp)) n
  have nsp : ∀ {b : Addr} {m : Str → Option Value}, st.heap.Ns b m → (hidT st.heap H).Ns b m := fun {b m} ⟨o, es, ep, e, d, r⟩ => by
    have nb : b ≠ a := fun z => by
      rw [z, obj] at e
      injection e with e
      rw [← e] at d
      injection d
    exact ⟨o, es, ep, hidT_get e (other nb), d, r⟩
  have kin : K.In (hidT st.heap H) := fun b o e => by
    have g := inK b o e
    by_cases nb : b = a
    · refine hidT_get g ?_
      rcases hq : H b with _ | u
      · rfl
      · rw [nb] at hq e
        rw [free (by rw [hq]; simp)] at e
        cases e
    · exact hidT_get g (other nb)
  obtain ⟨mc, l1, l2⟩ := noL
  have md : Mod K mg (hidT st.heap H) := ⟨kin, nsp gl, ⟨mb, nsp bu, bb⟩, ⟨mc, nsp l1, l2⟩⟩
  have ns : (hidT st.heap H).NoSeer := by
    obtain ⟨mc, a1, a2⟩ := noS.statics
    obtain ⟨mm, b1, b2⟩ := noS.mods
    obtain ⟨mb', c1, c2⟩ := noS.imp
    obtain ⟨mg', bm, ob, d1, d2, d3, d4, d5⟩ := noS.main
    refine ⟨⟨mc, nsp a1, a2⟩, ⟨mm, nsp b1, b2⟩, ⟨mb', nsp c1, c2⟩, ⟨mg', bm, ob, nsp d1, d2, hidT_get d3 (other fun z => ?_), d4, d5⟩⟩
    rw [z, obj] at d3
    injection d3 with d3
    rw [← d3] at d4
    exact absurd (Value.type.inj d4) (by decide)
  refine ⟨kin, nsp gl, ns, rfl, md, fun b o e => of_hidT e, Nat.le_of_eq (hidT_size _ _), trivial, fun b hb => ?_, ok, .of_eq gens⟩
  exact (List.not_mem_nil hb).elim
theorem law_end {H : Hp} (inK : K.In st.heap) (gl : st.heap.Ns mainGlobals mg) (bu : st.heap.Ns builtinsNs mb) (bb : ∀ x : Str, x ≠ "__name__" → mb x = bootBuiltins x) (noL : st.heap.NoLimit) (noS : st.heap.NoSeer) (gens : st.gens = #[])
    (obj : st.heap.get? a = some { cls := .type "list", data := .seq vs.toArray }) (short : ns.length ≤ 63) (room : Room k callerA) (gd : callerA.guards = some [])
    (G : ∀ base : Heap, K.In base → base.Ns mainGlobals mg → base.NoSeer → FnG P w K mg base k fa fd ["script"] (spLaw K)) (bd : ∀ (s : Shared) (u : Value), BindsTo s fd ⟨[u], []⟩ [("script", u)])
    (ok : HOk P w H st.heap) (one : ∀ b, H b ≠ none → b = a) (free : H a ≠ none → K.lookup a = none) (frz : ∀ b u, H b = some u → ∃ o xs, u = .frz o (.lst xs)) (sq : SqL K H a (ns.map V.int)) :
    codeAny (model P w) callerA (.call (.ref fa) ⟨[.ref a], []⟩) (fun r s' => r = .ok (.ret (.bool true)) ∧ OldK st.heap s'.heap ∧ s'.os = st.os ∧ AllBare s'.gens) st := by
  obtain ⟨kin, glb, nsr, e0⟩ := world0 inK gl bu bb noL noS gens obj ok one free
  have run := (G _ kin glb nsr).run callerA [] st H ⟨[.ref a], []⟩ [.ref a] [.ref a] (fun v _ => v = .bl true) (fun _ _ _ => False) room gd e0 (bd st (.ref a)) (.cons rfl .nil) ⟨a, ns, rfl, sq, short, fun _ => rfl⟩
  refine codeAny_mono run fun r s' h => ?_
  match r, h with
  | .error e, h => exact h.elim
  | .ok .next, h => exact False.elim h
  | .ok .brk, h => exact False.elim h
  | .ok .cont, h => exact False.elim h
  | .ok (.ret u), ⟨v, H', os, bare, un, hok', r', q⟩ =>
    subst q
    cases (show u = Value.bool true from r')
    refine ⟨rfl, OldK.of_keep fun b o e => ?_, os, bare⟩
    rcases hq : H b with _ | z
    · exact un.keep b o e hq (List.not_mem_nil) List.not_mem_nil
    · obtain ⟨ob, xs, rfl⟩ := frz b z hq
      have e1 := (hok' b _ (un.frzs b ob _ hq)).1
      have e2 := (ok b _ hq).1
      rw [e2] at e
      rw [← e]
      exact e1
theorem law_callG (inK : K.In st.heap) (gl : st.heap.Ns mainGlobals mg) (bu : st.heap.Ns builtinsNs mb) (bb : ∀ x : Str, x ≠ "__name__" → mb x = bootBuiltins x) (noL : st.heap.NoLimit) (noS : st.heap.NoSeer) (gens : st.gens = #[])
    (obj : st.heap.get? a = some { cls := .type "list", data := .seq vs.toArray }) (ia : IntsAre vs ns) (short : ns.length ≤ 63) (room : Room k callerA) (gd : callerA.guards = some [])
    (G : ∀ base : Heap, K.In base → base.Ns mainGlobals mg → base.NoSeer → FnG P w K mg base k fa fd ["script"] (spLaw K)) (bd : ∀ (s : Shared) (u : Value), BindsTo s fd ⟨[u], []⟩ [("script", u)]) :
    codeAny (model P w) callerA (.call (.ref fa) ⟨[.ref a], []⟩) (fun r s' => r = .ok (.ret (.bool true)) ∧ OldK st.heap s'.heap ∧ s'.os = st.os ∧ AllBare s'.gens) st := by
  have vals := vals_ints ia
  have size := ia.length
  have few : ns.length ≤ sizeLine := Nat.le_trans short (by decide)
  rcases at_ : K.lookup a with _ | o
  · -- the script is nobody's: tracked, frozen
    let H : Hp := fun b => if b = a then some (.frz { cls := .type "list", data := .seq vs.toArray } (.lst (ns.map V.int))) else none
    have val : ∀ {b u}, H b = some u → b = a ∧ u = .frz { cls := .type "list", data := .seq vs.toArray } (.lst (ns.map V.int)) := fun {b u} h => by
      by_cases hb : b = a
      · rw [show H b = _ from if_pos hb] at h
        injection h with h
        exact ⟨hb, h.symm⟩
      · rw [show H b = _ from if_neg hb] at h
        cases h
    refine law_end (H := H) inK gl bu bb noL noS gens obj short room gd G bd (fun b u h => ?_) (fun b h => ?_) (fun _ => at_) (fun b u h => ⟨_, _, (val h).2⟩) (.inl (.inr ⟨_, if_pos rfl⟩))
    · obtain ⟨rfl, rfl⟩ := val h
      exact ⟨obj, by rw [List.length_map]; exact few, vs, _, vals, obj⟩
    · rcases hq : H b with _ | u
      · exact absurd hq h
      · exact (val hq).1
  · -- the script is one of the module's own things
    have e := inK a o at_
    rw [obj] at e
    injection e with e
    subst e
    refine law_end (H := fun _ => none) inK gl bu bb noL noS gens obj short room gd G bd (fun b u h => by cases h) (fun b h => absurd rfl h) (fun h => absurd rfl h) (fun b u h => by cases h) (.inr ⟨_, vs.toArray, _, at_, rfl, rfl, rfl, ?_, ?_⟩)
    · rw [List.size_toArray, size]; exact few
    · simpa using vals
/-- the row's walk -/
theorem walkG {l : PySem.W.OpenLaw} {q : Program} {loose : List Str} {XP : (Str → Option Value) → Heap → Prop} {YP : World → Heap → Prop} {d : DefRec} (most : l.most = some 63) (dfl : d.params.defaults = []) (room : Room k callerA) (gd : callerA.guards = some []) (hi : importsNone q = true)
    (F : ∀ (w : World) (mg : Str → Option Value) (fa : Addr) (h : Heap), YP w h → XP mg h → h.Ns mainGlobals mg → mg d.name = some (.ref fa) →
      ∃ (K : PySem.W.Frag) (fd : FuncData), K.In h ∧ (∀ (s : Shared) (u : Value), BindsTo s fd ⟨[u], []⟩ [("script", u)]) ∧ ∀ base : Heap, K.In base → base.Ns mainGlobals mg → base.NoSeer → FnG l.prog w K mg base k fa fd ["script"] (spLaw K)) :
    PySem.W.WalkO q loose XP YP l.row.toRowW d [] (fun f vs => PySem.call f vs) := by
  refine Att.attach_call most dfl fun w s₀ st mg mb fa o pm cd doc a vs ns G Y ho hd hcd hmg obj ia few gens => ?_
  obtain ⟨K, fd, kin, bd, hF⟩ := F w mg fa _ Y G.X G.T.g hmg
  exact law_callG kin G.T.g G.T.b G.T.builtins G.T.nolimit (G.T.seer hi) gens obj ia few room gd hF bd
end
end Ev
/-! EvDat: how the plain data of a def is read. -/
namespace Ev
open PySem
section
theorem forL_inv {j : D → Ev → En → Prop} {ds : List D} {E : En} {env : Ev} (I : Nat → Ev → Prop) (h0 : I 0 env)
    (step : ∀ i d e (n : Ev → Prop), ds[i]? = some d → I i e → (∀ e', I (i + 1) e' → n e') → j d e { nx := n, rt := E.rt, bk := E.nx }) (fin : ∀ e, I ds.length e → E.nx e) : forL j ds env E := by
  suffices h : ∀ (r : List D) (i : Nat) (e : Ev), (∀ k, ds[i + k]? = r[k]?) → r.length + i = ds.length → I i e → forL j r e E by
    exact h ds 0 env (fun k => by rw [Nat.zero_add]) (by omega) h0
  intro r
  induction r with
  | nil => intro i e _ hl hI; simp at hl; subst hl; exact fin e hI
  | cons d r ih =>
    intro i e hr hl hI
    have h1 : ds[i]? = some d := by simpa using hr 0
    refine step i d e _ h1 hI fun e' hI' => ih (i + 1) e' (fun k => ?_) (by simp at hl; omega) hI'
    have := hr (k + 1)
    simp at this
    rw [← this]; congr 1; omega
theorem compL_inv {j : D → Ev → (Option D → Ev → Prop) → Prop} {ds : List D} {env : Ev} {k : List D → Ev → Prop} (I : Nat → List D → Ev → Prop) (h0 : I 0 [] env)
    (step : ∀ i d acc e (n : Option D → Ev → Prop), ds[i]? = some d → I i acc e → (∀ o e', I (i + 1) (match o with | some y => acc ++ [y] | none => acc) e' → n o e') → j d e n) (fin : ∀ acc e, I ds.length acc e → k acc e) : compL j ds env [] k := by
  suffices h : ∀ (r : List D) (i : Nat) (acc : List D) (e : Ev), (∀ k, ds[i + k]? = r[k]?) → r.length + i = ds.length → I i acc e → compL j r e acc k by
    exact h ds 0 [] env (fun k => by rw [Nat.zero_add]) (by omega) h0
  intro r
  induction r with
  | nil => intro i acc e _ hl hI; simp at hl; subst hl; exact fin acc e hI
  | cons d r ih =>
    intro i acc e hr hl hI
    have h1 : ds[i]? = some d := by simpa using hr 0
    refine step i d acc e _ h1 hI fun o e' hI' => ih (i + 1) _ e' (fun k => ?_) (by simp at hl; omega) hI'
    have := hr (k + 1)
    simp at this
    rw [← this]; congr 1; omega
/-- a comprehension whose elements are told one by one -/
theorem compL_map {j : D → Ev → (Option D → Ev → Prop) → Prop} {ds : List D} {env : Ev} {k : List D → Ev → Prop} (P : Ev → Prop) (f : Nat → D) (h0 : P env)
    (step : ∀ i d e (n : Option D → Ev → Prop), ds[i]? = some d → P e → (∀ e', P e' → n (some (f i)) e') → j d e n) (fin : ∀ e, P e → k ((List.range ds.length).map f) e) : compL j ds env [] k := by
  refine compL_inv (fun i acc e => acc = (List.range i).map f ∧ P e) ⟨rfl, h0⟩ (fun i d acc e n hd ⟨ha, he⟩ hn => step i d e n hd he fun e' he' => hn _ e' ⟨?_, he'⟩) fun acc e ⟨ha, he⟩ => by rw [ha]; exact fin e he
  simp only [ha, List.range_succ, List.map_append, List.map_cons, List.map_nil]
theorem whileL_meas {t : Ev → (Bool → Ev → Prop) → Prop} {j : Ev → En → Prop} {E : En} (I : Nat → Ev → Prop)
    (step : ∀ m e (n : Ev → Prop), I m e → (∀ e' m', m' < m → I m' e' → n e') → t e fun c e1 => if c = true then j e1 { nx := n, rt := E.rt, bk := E.nx } else E.nx e1) : ∀ m env, I m env → whileL t j (m + 1) env E := by
  intro m
  suffices h : ∀ m b env, m ≤ b → I m env → whileL t j (b + 1) env E by exact fun env hI => h m m env (Nat.le_refl _) hI
  intro m
  induction m using Nat.strongRecOn with
  | ind m ih =>
    intro b env hb hI
    refine step m env _ hI fun e' m' hm hI' => ?_
    obtain ⟨b', rfl⟩ : ∃ b', b = b' + 1 := ⟨b - 1, by omega⟩
    exact ih m' hm b' e' (by omega) hI'
theorem truth_bool {b : Bool} {k : Bool → Prop} : truth (.fz (.bool b)) k ↔ k b := ⟨fun ⟨c, e, h⟩ => by cases e; exact h, fun h => ⟨b, rfl, h⟩⟩
theorem with1_fz {d : D} {env : Ev} {k : D → Prop} : with1 (.fz d) env k ↔ k d := ⟨fun ⟨c, e, h⟩ => by cases e; exact h, fun h => ⟨d, rfl, h⟩⟩
theorem with1_fr {d : D} {env : Ev} {k : D → Prop} : with1 (.fr d) env k ↔ k d := ⟨fun ⟨c, e, h⟩ => by cases e; exact h, fun h => ⟨d, rfl, h⟩⟩
theorem rets_f {d : D} : rets false d = .fz d := rfl
theorem rets_t {d : D} : rets true d = .fr d := rfl
theorem ex_fzI {i : Int} {P : Int → Prop} : (∃ j, Vl.fz (.int i) = .fz (.int j) ∧ P j) ↔ P i := ⟨fun ⟨c, e, h⟩ => by cases e; exact h, fun h => ⟨i, rfl, h⟩⟩
theorem ex_fzB {i : Bool} {P : Bool → Prop} : (∃ j, Vl.fz (.bool i) = .fz (.bool j) ∧ P j) ↔ P i := ⟨fun ⟨c, e, h⟩ => by cases e; exact h, fun h => ⟨i, rfl, h⟩⟩
theorem ex_fzT {i : List D} {P : List D → Prop} : (∃ j, Vl.fz (.tuple i) = .fz (.tuple j) ∧ P j) ↔ P i := ⟨fun ⟨c, e, h⟩ => by cases e; exact h, fun h => ⟨i, rfl, h⟩⟩
theorem ex_T {i : List D} {P : List D → Prop} : (∃ j, PyData.tuple i = .tuple j ∧ P j) ↔ P i := ⟨fun ⟨c, e, h⟩ => by cases e; exact h, fun h => ⟨i, rfl, h⟩⟩
theorem ex_L {i : List D} {P : List D → Prop} : (∃ j, PyData.list i = .list j ∧ P j) ↔ P i := ⟨fun ⟨c, e, h⟩ => by cases e; exact h, fun h => ⟨i, rfl, h⟩⟩
theorem ex_some {α : Type} {i : α} {P : α → Prop} : (∃ j, some i = some j ∧ P j) ↔ P i := ⟨fun ⟨c, e, h⟩ => by cases e; exact h, fun h => ⟨i, rfl, h⟩⟩
end
end Ev
/-! EvRun: the reading rules, by the shape of the frame (printed by gen/evrun.py). -/
namespace Ev
open PySem L2
/-- what simp leaves as it stands: a later thing's type hangs on it -/
def Hold {α : Type} (_ : α) : Type := Unit
def Hold.mk {α : Type} (k : α) : Hold k := ()
/-- a fraction -/
def fr (q : Rat) : D := .tuple [.int q.num, .int (q.den : Nat)]
theorem idx_fr0 {q : Rat} {k : D → Prop} : idxS (fr q) (.int 0) k = k (.int q.num) := propext ⟨fun ⟨d, e, h⟩ => by cases e; exact h, fun h => ⟨_, rfl, h⟩⟩
theorem idx_fr1 {q : Rat} {k : D → Prop} : idxS (fr q) (.int 1) k = k (.int (q.den : Nat)) := propext ⟨fun ⟨d, e, h⟩ => by cases e; exact h, fun h => ⟨_, rfl, h⟩⟩
theorem fr0 : PyData.tuple [.int 0, .int 1] = fr 0 := rfl
theorem fr1 : PyData.tuple [.int 1, .int 1] = fr 1 := rfl
/-- rows of fractions -/
def rowL (n : Nat) (f : Nat → Rat) : List D := (List.range n).map fun i => fr (f i)
def tupF (n : Nat) (f : Nat → Rat) : D := .tuple (rowL n f)
def lstF (n : Nat) (f : Nat → Rat) : D := .list (rowL n f)
theorem rowL_len {n : Nat} {f : Nat → Rat} : (rowL n f).length = n := by simp [rowL]
theorem at_row {n : Nat} {f : Nat → Rat} {i : Int} {k : D → Prop} : (∃ d, at? (rowL n f) i = some d ∧ k d) ↔ ∃ m, ixN n i = some m ∧ k (fr (f m)) := by
  unfold at? atI
  rw [rowL_len]
  cases h : ixN n i with
  | none => simp
  | some m =>
    obtain ⟨_, hm, _⟩ := ixN_seq h
    simp only [Option.bind_some, rowL, List.getElem?_map, List.getElem?_range hm, Option.map_some, Option.some.injEq, exists_eq_left']
theorem i_tF {n : Nat} {f : Nat → Rat} {i : Int} {k : D → Prop} : idxS (tupF n f) (.int i) k = ∃ m, ixN n i = some m ∧ k (fr (f m)) := propext at_row
theorem i_lF {n : Nat} {f : Nat → Rat} {i : Int} {k : D → Prop} : idxS (lstF n f) (.int i) k = ∃ m, ixN n i = some m ∧ k (fr (f m)) := propext at_row
theorem u_ltF {n : Nat} {f : Nat → Rat} {kb : Bool → D → Prop} : b1S .len (tupF n f) kb = kb false (.int n) := by
  show kb false (.int (rowL n f).length) = _
  rw [rowL_len]
theorem u_llF {n : Nat} {f : Nat → Rat} {kb : Bool → D → Prop} : b1S .len (lstF n f) kb = kb false (.int n) := by
  show kb false (.int (rowL n f).length) = _
  rw [rowL_len]
theorem at2_0 {x y : D} {k : D → Prop} : (∃ d, at? [x, y] 0 = some d ∧ k d) = k x := propext ⟨fun ⟨d, e, h⟩ => by cases e; exact h, fun h => ⟨_, rfl, h⟩⟩
theorem at2_1 {x y : D} {k : D → Prop} : (∃ d, at? [x, y] 1 = some d ∧ k d) = k y := propext ⟨fun ⟨d, e, h⟩ => by cases e; exact h, fun h => ⟨_, rfl, h⟩⟩
theorem bd_fr {q : Rat} {tg th : Tg} {env : Ev} {n : Ev → Prop} : bindT (.cons tg th) (fr q) env n = bindT tg (.int q.num) env fun e => bindT th (.tuple [.int (q.den : Nat)]) e n := rfl
theorem st_bw {i m : Nat} {env : Ev} {n : Ev → Prop} (h : i < env.length) : setV i (.bw m) env n = Vl.give (.bw m) env fun d e => bindT (.s i) d e n := by
  apply propext
  unfold setV Vl.give
  simp only
  cases hs : env.getD m .no with
  | ow d => exact ⟨fun hh => ⟨by simpa using h, hh.2⟩, fun hh => ⟨h, hh.2⟩⟩
  | fz d => exact ⟨fun hh => ⟨h, hh.2⟩, fun hh => ⟨h, hh.2⟩⟩
  | no => exact ⟨fun hh => hh.2, fun hh => hh.elim⟩
  | src => exact ⟨fun hh => hh.2, fun hh => hh.elim⟩
theorem it_tF {n : Nat} {f : Nat → Rat} : items? (tupF n f) = some (rowL n f) := rfl
def callF (F : Fns) (f : Nat) (xs : List D) (k : Bool → D → Prop) (_ : Hold k) : Prop := F f xs k
def putS (i : Nat) (s : Sl) (env : Ev) (n : Ev → Prop) : Prop := i < env.length ∧ n (env.set i s)
def parEnd : List Nat → List Vl → Ev → (Ev → Prop) → Prop
  | [], [], env, n => n env
  | i :: is, v :: vs, env, n => parEnd is vs env fun e => putS i (slotV v) e n
  | _, _, _, _ => False
theorem parSet_length : ∀ (is : List Nat) (vs : List Vl) (env : Ev), (parSet is vs env).length = env.length
  | [], [], _ => rfl
  | [], _ :: _, _ => rfl
  | _ :: _, [], _ => rfl
  | i :: is, v :: vs, env => by simp only [parSet, List.length_set]; exact parSet_length is vs env
theorem parEnd_iff : ∀ (is : List Nat) (vs : List Vl) (env : Ev) (n : Ev → Prop), (vs.length = is.length ∧ (∀ i ∈ is, i < env.length) ∧ n (parSet is vs env)) ↔ parEnd is vs env n
  | [], [], env, n => ⟨fun h => h.2.2, fun h => ⟨rfl, fun i hi => (List.not_mem_nil hi).elim, h⟩⟩
  | [], _ :: _, env, n => ⟨fun h => (nomatch h.1), fun h => False.elim h⟩
  | _ :: _, [], env, n => ⟨fun h => (nomatch h.1), fun h => False.elim h⟩
  | i :: is, v :: vs, env, n => by
    have e := parEnd_iff is vs env (fun e => putS i (slotV v) e n)
    show _ ↔ parEnd is vs env fun e => putS i (slotV v) e n
    rw [← e]
    have pl := parSet_length is vs env
    constructor
    · intro ⟨h1, h2, h3⟩
      exact ⟨by simpa using h1, fun j hj => h2 j (List.mem_cons_of_mem _ hj), by rw [pl]; exact h2 i List.mem_cons_self, h3⟩
    · intro ⟨h1, h2, h3, h4⟩
      refine ⟨by simpa using h1, fun j hj => ?_, h4⟩
      rcases List.mem_cons.mp hj with rfl | hj
      · rw [← pl]; exact h3
      · exact h2 j hj
def ownL (i : Nat) (env : Ev) : Prop := ∃ ys, env.getD i .no = .ow (.list ys)
def appEnd (i : Nat) (y : D) (env : Ev) (n : Ev → Prop) : Prop := match env.getD i .no with
  | .ow (.list xs) => xs.length < 16777216 ∧ n (env.set i (.ow (.list (xs ++ [y]))))
  | _ => False
def extEnd (i : Nat) (y : D) (env : Ev) (n : Ev → Prop) : Prop := match env.getD i .no, y with
  | .ow (.list xs), .list ys => Fits (xs.length + ys.length) ∧ n (env.set i (.ow (.list (xs ++ ys))))
  | .ow (.list xs), .tuple ys => Fits (xs.length + ys.length) ∧ n (env.set i (.ow (.list (xs ++ ys))))
  | _, _ => False
def stoEnd (i : Nat) (y : D) (j : Int) (env : Ev) (n : Ev → Prop) : Prop := match env.getD i .no with
  | .ow (.list xs) => ∃ m, ixN xs.length j = some m ∧ n (env.set i (.ow (.list (xs.set m y))))
  | _ => False
def pop0End (i : Nat) (env : Ev) (k : Vl → Ev → Prop) : Prop := match env.getD i .no with
  | .ow (.list xs) => ∃ d, xs.getLast? = some d ∧ k (.fz d) (env.set i (.ow (.list xs.dropLast)))
  | _ => False
def pop1End (i : Nat) (j : Int) (env : Ev) (k : Vl → Ev → Prop) : Prop := match env.getD i .no with
  | .ow (.list xs) => ∃ d, 0 ≤ j ∧ j < 1000000000 ∧ xs[j.toNat]? = some d ∧ k (.fz d) (env.set i (.ow (.list (xs.eraseIdx j.toNat))))
  | _ => False
def popSEnd (i : Nat) (env : Ev) (n : Ev → Prop) : Prop := match env.getD i .no with
  | .ow (.list xs) => xs ≠ [] ∧ n (env.set i (.ow (.list xs.dropLast)))
  | _ => False
def retV (v : Vl) (env : Ev) (rt : Bool → D → Prop) : Prop := match v with
  | .fz d => rt false d
  | .fr d => rt true d
  | .bw i => (match env.getD i .no with | .ow d => rt true d | .fz d => rt false d | _ => False)
  | .sr => False
def isD (f : B2) (va : Vl) (e1 : Ev) : Prop := match f with | .indexL => ∃ q, va.rd e1 = some (.list q) | .indexT => ∃ q, va.rd e1 = some (.tuple q) | _ => True
def isDict (va : Vl) (e1 : Ev) : Prop := ∃ q, va.rd e1 = some (.dict q)
def dgetS (x y : D) (k : D → Prop) : Prop := ∃ kvs, x = .dict kvs ∧ isKey y = true ∧ ∃ d, look kvs y = some d ∧ k d
def dgetdS (x y z : D) (k : D → Prop) : Prop := ∃ kvs, x = .dict kvs ∧ isKey y = true ∧ k ((look kvs y).getD z)
def dinS (x y : D) (k : Bool → Prop) : Prop := ∃ kvs, y = .dict kvs ∧ isKey x = true ∧ k (look kvs x).isSome
def pickS (x : D) (st : Int) (p : Option Int) (k : D → Prop) : Prop := ∃ xs, x = .tuple xs ∧ k (.tuple (pickG xs st p))
def loopS (F : Fns) (tg : Tg) (b : Stm) (ds : List D) (env : Ev) (E : En) (_ : Hold E) : Prop := forL (fun x e0 E0 => bindT tg x e0 fun ea => wS F b ea E0) ds env E
def whlS (F : Fns) (t : Ex) (b : Stm) (env : Ev) (E : En) (_ : Hold E) : Prop := ∃ n, whileL (fun e k => w F t e fun v e1 => truth v fun c => k c e1) (fun e E0 => wS F b e E0) n env E
def turnC (F : Fns) (own : List Nat) (tg : Tg) (t e : Ex) (x : D) (e0 : Ev) (kk : Option D → Ev → Prop) : Prop := bindT tg x (wipeE e0 own) fun ea => w F t ea fun vt eb => truth vt fun c =>
        if c = true then w F e eb fun vy ec => vy.give ec fun y ed => kk (some y) ed else kk none eb
def compS (F : Fns) (own : List Nat) (tg : Tg) (t e : Ex) (ds : List D) (env : Ev) (k : Vl → Ev → Prop) (_ : Hold k) : Prop := compL (turnC F own tg t e) ds env [] fun ys e9 => k (.fr (.list ys)) (backE env e9 own)
section
variable {F : Fns} {a b c d e : Ex} {env : Ev} {k : Vl → Ev → Prop} {x y z : D} {r : Ev} {n nx bk : Ev → Prop} {rt : Bool → D → Prop} {kd : D → Prop} {kb : Bool → D → Prop} {kc : Bool → Prop} {ke : D → Ev → Prop} {kv : Vl → Ev → Prop} {kl : List D → Prop} {i j : Int} {p q : Bool} {xs ys : List D} {s t : Str} {sa sb : Stm} {f g m : Nat} {tg th : Tg} {is : List Nat} {v : Vl} {vs : List Vl} {kp : List Vl → Ev → Prop} {so : Option Nat} {E : En} {sl sx : Sl} {kvs : List (D × D)}

theorem w_k : w F (.k x) env k = k (.fz x) env := rfl
theorem w_vf0 : w F (.v 0) (.fz x :: r) k = k (.fz x) (.fz x :: r) := rfl
theorem w_vf1 {a0 : Sl} : w F (.v 1) (a0 :: .fz x :: r) k = k (.fz x) (a0 :: .fz x :: r) := rfl
theorem w_vf2 {a0 a1 : Sl} : w F (.v 2) (a0 :: a1 :: .fz x :: r) k = k (.fz x) (a0 :: a1 :: .fz x :: r) := rfl
theorem w_vf3 {a0 a1 a2 : Sl} : w F (.v 3) (a0 :: a1 :: a2 :: .fz x :: r) k = k (.fz x) (a0 :: a1 :: a2 :: .fz x :: r) := rfl
theorem w_vf4 {a0 a1 a2 a3 : Sl} : w F (.v 4) (a0 :: a1 :: a2 :: a3 :: .fz x :: r) k = k (.fz x) (a0 :: a1 :: a2 :: a3 :: .fz x :: r) := rfl
theorem w_vf5 {a0 a1 a2 a3 a4 : Sl} : w F (.v 5) (a0 :: a1 :: a2 :: a3 :: a4 :: .fz x :: r) k = k (.fz x) (a0 :: a1 :: a2 :: a3 :: a4 :: .fz x :: r) := rfl
theorem w_vf6 {a0 a1 a2 a3 a4 a5 : Sl} : w F (.v 6) (a0 :: a1 :: a2 :: a3 :: a4 :: a5 :: .fz x :: r) k = k (.fz x) (a0 :: a1 :: a2 :: a3 :: a4 :: a5 :: .fz x :: r) := rfl
theorem w_vf7 {a0 a1 a2 a3 a4 a5 a6 : Sl} : w F (.v 7) (a0 :: a1 :: a2 :: a3 :: a4 :: a5 :: a6 :: .fz x :: r) k = k (.fz x) (a0 :: a1 :: a2 :: a3 :: a4 :: a5 :: a6 :: .fz x :: r) := rfl
theorem w_vf8 {a0 a1 a2 a3 a4 a5 a6 a7 : Sl} : w F (.v 8) (a0 :: a1 :: a2 :: a3 :: a4 :: a5 :: a6 :: a7 :: .fz x :: r) k = k (.fz x) (a0 :: a1 :: a2 :: a3 :: a4 :: a5 :: a6 :: a7 :: .fz x :: r) := rfl
theorem w_vf9 {a0 a1 a2 a3 a4 a5 a6 a7 a8 : Sl} : w F (.v 9) (a0 :: a1 :: a2 :: a3 :: a4 :: a5 :: a6 :: a7 :: a8 :: .fz x :: r) k = k (.fz x) (a0 :: a1 :: a2 :: a3 :: a4 :: a5 :: a6 :: a7 :: a8 :: .fz x :: r) := rfl
theorem w_vf10 {a0 a1 a2 a3 a4 a5 a6 a7 a8 a9 : Sl} : w F (.v 10) (a0 :: a1 :: a2 :: a3 :: a4 :: a5 :: a6 :: a7 :: a8 :: a9 :: .fz x :: r) k = k (.fz x) (a0 :: a1 :: a2 :: a3 :: a4 :: a5 :: a6 :: a7 :: a8 :: a9 :: .fz x :: r) := rfl
theorem w_vf11 {a0 a1 a2 a3 a4 a5 a6 a7 a8 a9 a10 : Sl} : w F (.v 11) (a0 :: a1 :: a2 :: a3 :: a4 :: a5 :: a6 :: a7 :: a8 :: a9 :: a10 :: .fz x :: r) k = k (.fz x) (a0 :: a1 :: a2 :: a3 :: a4 :: a5 :: a6 :: a7 :: a8 :: a9 :: a10 :: .fz x :: r) := rfl
theorem w_vf12 {a0 a1 a2 a3 a4 a5 a6 a7 a8 a9 a10 a11 : Sl} : w F (.v 12) (a0 :: a1 :: a2 :: a3 :: a4 :: a5 :: a6 :: a7 :: a8 :: a9 :: a10 :: a11 :: .fz x :: r) k = k (.fz x) (a0 :: a1 :: a2 :: a3 :: a4 :: a5 :: a6 :: a7 :: a8 :: a9 :: a10 :: a11 :: .fz x :: r) := rfl
theorem w_vf13 {a0 a1 a2 a3 a4 a5 a6 a7 a8 a9 a10 a11 a12 : Sl} : w F (.v 13) (a0 :: a1 :: a2 :: a3 :: a4 :: a5 :: a6 :: a7 :: a8 :: a9 :: a10 :: a11 :: a12 :: .fz x :: r) k = k (.fz x) (a0 :: a1 :: a2 :: a3 :: a4 :: a5 :: a6 :: a7 :: a8 :: a9 :: a10 :: a11 :: a12 :: .fz x :: r) := rfl
theorem w_vf14 {a0 a1 a2 a3 a4 a5 a6 a7 a8 a9 a10 a11 a12 a13 : Sl} : w F (.v 14) (a0 :: a1 :: a2 :: a3 :: a4 :: a5 :: a6 :: a7 :: a8 :: a9 :: a10 :: a11 :: a12 :: a13 :: .fz x :: r) k = k (.fz x) (a0 :: a1 :: a2 :: a3 :: a4 :: a5 :: a6 :: a7 :: a8 :: a9 :: a10 :: a11 :: a12 :: a13 :: .fz x :: r) := rfl
theorem w_vf15 {a0 a1 a2 a3 a4 a5 a6 a7 a8 a9 a10 a11 a12 a13 a14 : Sl} : w F (.v 15) (a0 :: a1 :: a2 :: a3 :: a4 :: a5 :: a6 :: a7 :: a8 :: a9 :: a10 :: a11 :: a12 :: a13 :: a14 :: .fz x :: r) k = k (.fz x) (a0 :: a1 :: a2 :: a3 :: a4 :: a5 :: a6 :: a7 :: a8 :: a9 :: a10 :: a11 :: a12 :: a13 :: a14 :: .fz x :: r) := rfl
theorem w_vf16 {a0 a1 a2 a3 a4 a5 a6 a7 a8 a9 a10 a11 a12 a13 a14 a15 : Sl} : w F (.v 16) (a0 :: a1 :: a2 :: a3 :: a4 :: a5 :: a6 :: a7 :: a8 :: a9 :: a10 :: a11 :: a12 :: a13 :: a14 :: a15 :: .fz x :: r) k = k (.fz x) (a0 :: a1 :: a2 :: a3 :: a4 :: a5 :: a6 :: a7 :: a8 :: a9 :: a10 :: a11 :: a12 :: a13 :: a14 :: a15 :: .fz x :: r) := rfl
theorem w_vf17 {a0 a1 a2 a3 a4 a5 a6 a7 a8 a9 a10 a11 a12 a13 a14 a15 a16 : Sl} : w F (.v 17) (a0 :: a1 :: a2 :: a3 :: a4 :: a5 :: a6 :: a7 :: a8 :: a9 :: a10 :: a11 :: a12 :: a13 :: a14 :: a15 :: a16 :: .fz x :: r) k = k (.fz x) (a0 :: a1 :: a2 :: a3 :: a4 :: a5 :: a6 :: a7 :: a8 :: a9 :: a10 :: a11 :: a12 :: a13 :: a14 :: a15 :: a16 :: .fz x :: r) := rfl
theorem w_vf18 {a0 a1 a2 a3 a4 a5 a6 a7 a8 a9 a10 a11 a12 a13 a14 a15 a16 a17 : Sl} : w F (.v 18) (a0 :: a1 :: a2 :: a3 :: a4 :: a5 :: a6 :: a7 :: a8 :: a9 :: a10 :: a11 :: a12 :: a13 :: a14 :: a15 :: a16 :: a17 :: .fz x :: r) k = k (.fz x) (a0 :: a1 :: a2 :: a3 :: a4 :: a5 :: a6 :: a7 :: a8 :: a9 :: a10 :: a11 :: a12 :: a13 :: a14 :: a15 :: a16 :: a17 :: .fz x :: r) := rfl
theorem w_vf19 {a0 a1 a2 a3 a4 a5 a6 a7 a8 a9 a10 a11 a12 a13 a14 a15 a16 a17 a18 : Sl} : w F (.v 19) (a0 :: a1 :: a2 :: a3 :: a4 :: a5 :: a6 :: a7 :: a8 :: a9 :: a10 :: a11 :: a12 :: a13 :: a14 :: a15 :: a16 :: a17 :: a18 :: .fz x :: r) k = k (.fz x) (a0 :: a1 :: a2 :: a3 :: a4 :: a5 :: a6 :: a7 :: a8 :: a9 :: a10 :: a11 :: a12 :: a13 :: a14 :: a15 :: a16 :: a17 :: a18 :: .fz x :: r) := rfl
theorem w_vf20 {a0 a1 a2 a3 a4 a5 a6 a7 a8 a9 a10 a11 a12 a13 a14 a15 a16 a17 a18 a19 : Sl} : w F (.v 20) (a0 :: a1 :: a2 :: a3 :: a4 :: a5 :: a6 :: a7 :: a8 :: a9 :: a10 :: a11 :: a12 :: a13 :: a14 :: a15 :: a16 :: a17 :: a18 :: a19 :: .fz x :: r) k = k (.fz x) (a0 :: a1 :: a2 :: a3 :: a4 :: a5 :: a6 :: a7 :: a8 :: a9 :: a10 :: a11 :: a12 :: a13 :: a14 :: a15 :: a16 :: a17 :: a18 :: a19 :: .fz x :: r) := rfl
theorem w_vf21 {a0 a1 a2 a3 a4 a5 a6 a7 a8 a9 a10 a11 a12 a13 a14 a15 a16 a17 a18 a19 a20 : Sl} : w F (.v 21) (a0 :: a1 :: a2 :: a3 :: a4 :: a5 :: a6 :: a7 :: a8 :: a9 :: a10 :: a11 :: a12 :: a13 :: a14 :: a15 :: a16 :: a17 :: a18 :: a19 :: a20 :: .fz x :: r) k = k (.fz x) (a0 :: a1 :: a2 :: a3 :: a4 :: a5 :: a6 :: a7 :: a8 :: a9 :: a10 :: a11 :: a12 :: a13 :: a14 :: a15 :: a16 :: a17 :: a18 :: a19 :: a20 :: .fz x :: r) := rfl
theorem w_vf22 {a0 a1 a2 a3 a4 a5 a6 a7 a8 a9 a10 a11 a12 a13 a14 a15 a16 a17 a18 a19 a20 a21 : Sl} : w F (.v 22) (a0 :: a1 :: a2 :: a3 :: a4 :: a5 :: a6 :: a7 :: a8 :: a9 :: a10 :: a11 :: a12 :: a13 :: a14 :: a15 :: a16 :: a17 :: a18 :: a19 :: a20 :: a21 :: .fz x :: r) k = k (.fz x) (a0 :: a1 :: a2 :: a3 :: a4 :: a5 :: a6 :: a7 :: a8 :: a9 :: a10 :: a11 :: a12 :: a13 :: a14 :: a15 :: a16 :: a17 :: a18 :: a19 :: a20 :: a21 :: .fz x :: r) := rfl
theorem w_vf23 {a0 a1 a2 a3 a4 a5 a6 a7 a8 a9 a10 a11 a12 a13 a14 a15 a16 a17 a18 a19 a20 a21 a22 : Sl} : w F (.v 23) (a0 :: a1 :: a2 :: a3 :: a4 :: a5 :: a6 :: a7 :: a8 :: a9 :: a10 :: a11 :: a12 :: a13 :: a14 :: a15 :: a16 :: a17 :: a18 :: a19 :: a20 :: a21 :: a22 :: .fz x :: r) k = k (.fz x) (a0 :: a1 :: a2 :: a3 :: a4 :: a5 :: a6 :: a7 :: a8 :: a9 :: a10 :: a11 :: a12 :: a13 :: a14 :: a15 :: a16 :: a17 :: a18 :: a19 :: a20 :: a21 :: a22 :: .fz x :: r) := rfl
theorem w_vo0 : w F (.v 0) (.ow x :: r) k = k (.bw 0) (.ow x :: r) := rfl
theorem w_vo1 {a0 : Sl} : w F (.v 1) (a0 :: .ow x :: r) k = k (.bw 1) (a0 :: .ow x :: r) := rfl
theorem w_vo2 {a0 a1 : Sl} : w F (.v 2) (a0 :: a1 :: .ow x :: r) k = k (.bw 2) (a0 :: a1 :: .ow x :: r) := rfl
theorem w_vo3 {a0 a1 a2 : Sl} : w F (.v 3) (a0 :: a1 :: a2 :: .ow x :: r) k = k (.bw 3) (a0 :: a1 :: a2 :: .ow x :: r) := rfl
theorem w_vo4 {a0 a1 a2 a3 : Sl} : w F (.v 4) (a0 :: a1 :: a2 :: a3 :: .ow x :: r) k = k (.bw 4) (a0 :: a1 :: a2 :: a3 :: .ow x :: r) := rfl
theorem w_vo5 {a0 a1 a2 a3 a4 : Sl} : w F (.v 5) (a0 :: a1 :: a2 :: a3 :: a4 :: .ow x :: r) k = k (.bw 5) (a0 :: a1 :: a2 :: a3 :: a4 :: .ow x :: r) := rfl
theorem w_vo6 {a0 a1 a2 a3 a4 a5 : Sl} : w F (.v 6) (a0 :: a1 :: a2 :: a3 :: a4 :: a5 :: .ow x :: r) k = k (.bw 6) (a0 :: a1 :: a2 :: a3 :: a4 :: a5 :: .ow x :: r) := rfl
theorem w_vo7 {a0 a1 a2 a3 a4 a5 a6 : Sl} : w F (.v 7) (a0 :: a1 :: a2 :: a3 :: a4 :: a5 :: a6 :: .ow x :: r) k = k (.bw 7) (a0 :: a1 :: a2 :: a3 :: a4 :: a5 :: a6 :: .ow x :: r) := rfl
theorem w_vo8 {a0 a1 a2 a3 a4 a5 a6 a7 : Sl} : w F (.v 8) (a0 :: a1 :: a2 :: a3 :: a4 :: a5 :: a6 :: a7 :: .ow x :: r) k = k (.bw 8) (a0 :: a1 :: a2 :: a3 :: a4 :: a5 :: a6 :: a7 :: .ow x :: r) := rfl
theorem w_vo9 {a0 a1 a2 a3 a4 a5 a6 a7 a8 : Sl} : w F (.v 9) (a0 :: a1 :: a2 :: a3 :: a4 :: a5 :: a6 :: a7 :: a8 :: .ow x :: r) k = k (.bw 9) (a0 :: a1 :: a2 :: a3 :: a4 :: a5 :: a6 :: a7 :: a8 :: .ow x :: r) := rfl
theorem w_vo10 {a0 a1 a2 a3 a4 a5 a6 a7 a8 a9 : Sl} : w F (.v 10) (a0 :: a1 :: a2 :: a3 :: a4 :: a5 :: a6 :: a7 :: a8 :: a9 :: .ow x :: r) k = k (.bw 10) (a0 :: a1 :: a2 :: a3 :: a4 :: a5 :: a6 :: a7 :: a8 :: a9 :: .ow x :: r) := rfl
theorem w_vo11 {a0 a1 a2 a3 a4 a5 a6 a7 a8 a9 a10 : Sl} : w F (.v 11) (a0 :: a1 :: a2 :: a3 :: a4 :: a5 :: a6 :: a7 :: a8 :: a9 :: a10 :: .ow x :: r) k = k (.bw 11) (a0 :: a1 :: a2 :: a3 :: a4 :: a5 :: a6 :: a7 :: a8 :: a9 :: a10 :: .ow x :: r) := rfl
theorem w_vo12 {a0 a1 a2 a3 a4 a5 a6 a7 a8 a9 a10 a11 : Sl} : w F (.v 12) (a0 :: a1 :: a2 :: a3 :: a4 :: a5 :: a6 :: a7 :: a8 :: a9 :: a10 :: a11 :: .ow x :: r) k = k (.bw 12) (a0 :: a1 :: a2 :: a3 :: a4 :: a5 :: a6 :: a7 :: a8 :: a9 :: a10 :: a11 :: .ow x :: r) := rfl
theorem w_vo13 {a0 a1 a2 a3 a4 a5 a6 a7 a8 a9 a10 a11 a12 : Sl} : w F (.v 13) (a0 :: a1 :: a2 :: a3 :: a4 :: a5 :: a6 :: a7 :: a8 :: a9 :: a10 :: a11 :: a12 :: .ow x :: r) k = k (.bw 13) (a0 :: a1 :: a2 :: a3 :: a4 :: a5 :: a6 :: a7 :: a8 :: a9 :: a10 :: a11 :: a12 :: .ow x :: r) := rfl
theorem w_vo14 {a0 a1 a2 a3 a4 a5 a6 a7 a8 a9 a10 a11 a12 a13 : Sl} : w F (.v 14) (a0 :: a1 :: a2 :: a3 :: a4 :: a5 :: a6 :: a7 :: a8 :: a9 :: a10 :: a11 :: a12 :: a13 :: .ow x :: r) k = k (.bw 14) (a0 :: a1 :: a2 :: a3 :: a4 :: a5 :: a6 :: a7 :: a8 :: a9 :: a10 :: a11 :: a12 :: a13 :: .ow x :: r) := rfl
theorem w_vo15 {a0 a1 a2 a3 a4 a5 a6 a7 a8 a9 a10 a11 a12 a13 a14 : Sl} : w F (.v 15) (a0 :: a1 :: a2 :: a3 :: a4 :: a5 :: a6 :: a7 :: a8 :: a9 :: a10 :: a11 :: a12 :: a13 :: a14 :: .ow x :: r) k = k (.bw 15) (a0 :: a1 :: a2 :: a3 :: a4 :: a5 :: a6 :: a7 :: a8 :: a9 :: a10 :: a11 :: a12 :: a13 :: a14 :: .ow x :: r) := rfl
theorem w_vo16 {a0 a1 a2 a3 a4 a5 a6 a7 a8 a9 a10 a11 a12 a13 a14 a15 : Sl} : w F (.v 16) (a0 :: a1 :: a2 :: a3 :: a4 :: a5 :: a6 :: a7 :: a8 :: a9 :: a10 :: a11 :: a12 :: a13 :: a14 :: a15 :: .ow x :: r) k = k (.bw 16) (a0 :: a1 :: a2 :: a3 :: a4 :: a5 :: a6 :: a7 :: a8 :: a9 :: a10 :: a11 :: a12 :: a13 :: a14 :: a15 :: .ow x :: r) := rfl
theorem w_vo17 {a0 a1 a2 a3 a4 a5 a6 a7 a8 a9 a10 a11 a12 a13 a14 a15 a16 : Sl} : w F (.v 17) (a0 :: a1 :: a2 :: a3 :: a4 :: a5 :: a6 :: a7 :: a8 :: a9 :: a10 :: a11 :: a12 :: a13 :: a14 :: a15 :: a16 :: .ow x :: r) k = k (.bw 17) (a0 :: a1 :: a2 :: a3 :: a4 :: a5 :: a6 :: a7 :: a8 :: a9 :: a10 :: a11 :: a12 :: a13 :: a14 :: a15 :: a16 :: .ow x :: r) := rfl
theorem w_vo18 {a0 a1 a2 a3 a4 a5 a6 a7 a8 a9 a10 a11 a12 a13 a14 a15 a16 a17 : Sl} : w F (.v 18) (a0 :: a1 :: a2 :: a3 :: a4 :: a5 :: a6 :: a7 :: a8 :: a9 :: a10 :: a11 :: a12 :: a13 :: a14 :: a15 :: a16 :: a17 :: .ow x :: r) k = k (.bw 18) (a0 :: a1 :: a2 :: a3 :: a4 :: a5 :: a6 :: a7 :: a8 :: a9 :: a10 :: a11 :: a12 :: a13 :: a14 :: a15 :: a16 :: a17 :: .ow x :: r) := rfl
theorem w_vo19 {a0 a1 a2 a3 a4 a5 a6 a7 a8 a9 a10 a11 a12 a13 a14 a15 a16 a17 a18 : Sl} : w F (.v 19) (a0 :: a1 :: a2 :: a3 :: a4 :: a5 :: a6 :: a7 :: a8 :: a9 :: a10 :: a11 :: a12 :: a13 :: a14 :: a15 :: a16 :: a17 :: a18 :: .ow x :: r) k = k (.bw 19) (a0 :: a1 :: a2 :: a3 :: a4 :: a5 :: a6 :: a7 :: a8 :: a9 :: a10 :: a11 :: a12 :: a13 :: a14 :: a15 :: a16 :: a17 :: a18 :: .ow x :: r) := rfl
theorem w_vo20 {a0 a1 a2 a3 a4 a5 a6 a7 a8 a9 a10 a11 a12 a13 a14 a15 a16 a17 a18 a19 : Sl} : w F (.v 20) (a0 :: a1 :: a2 :: a3 :: a4 :: a5 :: a6 :: a7 :: a8 :: a9 :: a10 :: a11 :: a12 :: a13 :: a14 :: a15 :: a16 :: a17 :: a18 :: a19 :: .ow x :: r) k = k (.bw 20) (a0 :: a1 :: a2 :: a3 :: a4 :: a5 :: a6 :: a7 :: a8 :: a9 :: a10 :: a11 :: a12 :: a13 :: a14 :: a15 :: a16 :: a17 :: a18 :: a19 :: .ow x :: r) := rfl
theorem w_vo21 {a0 a1 a2 a3 a4 a5 a6 a7 a8 a9 a10 a11 a12 a13 a14 a15 a16 a17 a18 a19 a20 : Sl} : w F (.v 21) (a0 :: a1 :: a2 :: a3 :: a4 :: a5 :: a6 :: a7 :: a8 :: a9 :: a10 :: a11 :: a12 :: a13 :: a14 :: a15 :: a16 :: a17 :: a18 :: a19 :: a20 :: .ow x :: r) k = k (.bw 21) (a0 :: a1 :: a2 :: a3 :: a4 :: a5 :: a6 :: a7 :: a8 :: a9 :: a10 :: a11 :: a12 :: a13 :: a14 :: a15 :: a16 :: a17 :: a18 :: a19 :: a20 :: .ow x :: r) := rfl
theorem w_vo22 {a0 a1 a2 a3 a4 a5 a6 a7 a8 a9 a10 a11 a12 a13 a14 a15 a16 a17 a18 a19 a20 a21 : Sl} : w F (.v 22) (a0 :: a1 :: a2 :: a3 :: a4 :: a5 :: a6 :: a7 :: a8 :: a9 :: a10 :: a11 :: a12 :: a13 :: a14 :: a15 :: a16 :: a17 :: a18 :: a19 :: a20 :: a21 :: .ow x :: r) k = k (.bw 22) (a0 :: a1 :: a2 :: a3 :: a4 :: a5 :: a6 :: a7 :: a8 :: a9 :: a10 :: a11 :: a12 :: a13 :: a14 :: a15 :: a16 :: a17 :: a18 :: a19 :: a20 :: a21 :: .ow x :: r) := rfl
theorem w_vo23 {a0 a1 a2 a3 a4 a5 a6 a7 a8 a9 a10 a11 a12 a13 a14 a15 a16 a17 a18 a19 a20 a21 a22 : Sl} : w F (.v 23) (a0 :: a1 :: a2 :: a3 :: a4 :: a5 :: a6 :: a7 :: a8 :: a9 :: a10 :: a11 :: a12 :: a13 :: a14 :: a15 :: a16 :: a17 :: a18 :: a19 :: a20 :: a21 :: a22 :: .ow x :: r) k = k (.bw 23) (a0 :: a1 :: a2 :: a3 :: a4 :: a5 :: a6 :: a7 :: a8 :: a9 :: a10 :: a11 :: a12 :: a13 :: a14 :: a15 :: a16 :: a17 :: a18 :: a19 :: a20 :: a21 :: a22 :: .ow x :: r) := rfl
theorem w_mf0 : w F (.mv 0) (.fz x :: r) k = k (.fz x) (.fz x :: r) := rfl
theorem w_mf1 {a0 : Sl} : w F (.mv 1) (a0 :: .fz x :: r) k = k (.fz x) (a0 :: .fz x :: r) := rfl
theorem w_mf2 {a0 a1 : Sl} : w F (.mv 2) (a0 :: a1 :: .fz x :: r) k = k (.fz x) (a0 :: a1 :: .fz x :: r) := rfl
theorem w_mf3 {a0 a1 a2 : Sl} : w F (.mv 3) (a0 :: a1 :: a2 :: .fz x :: r) k = k (.fz x) (a0 :: a1 :: a2 :: .fz x :: r) := rfl
theorem w_mf4 {a0 a1 a2 a3 : Sl} : w F (.mv 4) (a0 :: a1 :: a2 :: a3 :: .fz x :: r) k = k (.fz x) (a0 :: a1 :: a2 :: a3 :: .fz x :: r) := rfl
theorem w_mf5 {a0 a1 a2 a3 a4 : Sl} : w F (.mv 5) (a0 :: a1 :: a2 :: a3 :: a4 :: .fz x :: r) k = k (.fz x) (a0 :: a1 :: a2 :: a3 :: a4 :: .fz x :: r) := rfl
theorem w_mf6 {a0 a1 a2 a3 a4 a5 : Sl} : w F (.mv 6) (a0 :: a1 :: a2 :: a3 :: a4 :: a5 :: .fz x :: r) k = k (.fz x) (a0 :: a1 :: a2 :: a3 :: a4 :: a5 :: .fz x :: r) := rfl
theorem w_mf7 {a0 a1 a2 a3 a4 a5 a6 : Sl} : w F (.mv 7) (a0 :: a1 :: a2 :: a3 :: a4 :: a5 :: a6 :: .fz x :: r) k = k (.fz x) (a0 :: a1 :: a2 :: a3 :: a4 :: a5 :: a6 :: .fz x :: r) := rfl
theorem w_mf8 {a0 a1 a2 a3 a4 a5 a6 a7 : Sl} : w F (.mv 8) (a0 :: a1 :: a2 :: a3 :: a4 :: a5 :: a6 :: a7 :: .fz x :: r) k = k (.fz x) (a0 :: a1 :: a2 :: a3 :: a4 :: a5 :: a6 :: a7 :: .fz x :: r) := rfl
theorem w_mf9 {a0 a1 a2 a3 a4 a5 a6 a7 a8 : Sl} : w F (.mv 9) (a0 :: a1 :: a2 :: a3 :: a4 :: a5 :: a6 :: a7 :: a8 :: .fz x :: r) k = k (.fz x) (a0 :: a1 :: a2 :: a3 :: a4 :: a5 :: a6 :: a7 :: a8 :: .fz x :: r) := rfl
theorem w_mf10 {a0 a1 a2 a3 a4 a5 a6 a7 a8 a9 : Sl} : w F (.mv 10) (a0 :: a1 :: a2 :: a3 :: a4 :: a5 :: a6 :: a7 :: a8 :: a9 :: .fz x :: r) k = k (.fz x) (a0 :: a1 :: a2 :: a3 :: a4 :: a5 :: a6 :: a7 :: a8 :: a9 :: .fz x :: r) := rfl
theorem w_mf11 {a0 a1 a2 a3 a4 a5 a6 a7 a8 a9 a10 : Sl} : w F (.mv 11) (a0 :: a1 :: a2 :: a3 :: a4 :: a5 :: a6 :: a7 :: a8 :: a9 :: a10 :: .fz x :: r) k = k (.fz x) (a0 :: a1 :: a2 :: a3 :: a4 :: a5 :: a6 :: a7 :: a8 :: a9 :: a10 :: .fz x :: r) := rfl
theorem w_mf12 {a0 a1 a2 a3 a4 a5 a6 a7 a8 a9 a10 a11 : Sl} : w F (.mv 12) (a0 :: a1 :: a2 :: a3 :: a4 :: a5 :: a6 :: a7 :: a8 :: a9 :: a10 :: a11 :: .fz x :: r) k = k (.fz x) (a0 :: a1 :: a2 :: a3 :: a4 :: a5 :: a6 :: a7 :: a8 :: a9 :: a10 :: a11 :: .fz x :: r) := rfl
theorem w_mf13 {a0 a1 a2 a3 a4 a5 a6 a7 a8 a9 a10 a11 a12 : Sl} : w F (.mv 13) (a0 :: a1 :: a2 :: a3 :: a4 :: a5 :: a6 :: a7 :: a8 :: a9 :: a10 :: a11 :: a12 :: .fz x :: r) k = k (.fz x) (a0 :: a1 :: a2 :: a3 :: a4 :: a5 :: a6 :: a7 :: a8 :: a9 :: a10 :: a11 :: a12 :: .fz x :: r) := rfl
theorem w_mf14 {a0 a1 a2 a3 a4 a5 a6 a7 a8 a9 a10 a11 a12 a13 : Sl} : w F (.mv 14) (a0 :: a1 :: a2 :: a3 :: a4 :: a5 :: a6 :: a7 :: a8 :: a9 :: a10 :: a11 :: a12 :: a13 :: .fz x :: r) k = k (.fz x) (a0 :: a1 :: a2 :: a3 :: a4 :: a5 :: a6 :: a7 :: a8 :: a9 :: a10 :: a11 :: a12 :: a13 :: .fz x :: r) := rfl
theorem w_mf15 {a0 a1 a2 a3 a4 a5 a6 a7 a8 a9 a10 a11 a12 a13 a14 : Sl} : w F (.mv 15) (a0 :: a1 :: a2 :: a3 :: a4 :: a5 :: a6 :: a7 :: a8 :: a9 :: a10 :: a11 :: a12 :: a13 :: a14 :: .fz x :: r) k = k (.fz x) (a0 :: a1 :: a2 :: a3 :: a4 :: a5 :: a6 :: a7 :: a8 :: a9 :: a10 :: a11 :: a12 :: a13 :: a14 :: .fz x :: r) := rfl
theorem w_mf16 {a0 a1 a2 a3 a4 a5 a6 a7 a8 a9 a10 a11 a12 a13 a14 a15 : Sl} : w F (.mv 16) (a0 :: a1 :: a2 :: a3 :: a4 :: a5 :: a6 :: a7 :: a8 :: a9 :: a10 :: a11 :: a12 :: a13 :: a14 :: a15 :: .fz x :: r) k = k (.fz x) (a0 :: a1 :: a2 :: a3 :: a4 :: a5 :: a6 :: a7 :: a8 :: a9 :: a10 :: a11 :: a12 :: a13 :: a14 :: a15 :: .fz x :: r) := rfl
theorem w_mf17 {a0 a1 a2 a3 a4 a5 a6 a7 a8 a9 a10 a11 a12 a13 a14 a15 a16 : Sl} : w F (.mv 17) (a0 :: a1 :: a2 :: a3 :: a4 :: a5 :: a6 :: a7 :: a8 :: a9 :: a10 :: a11 :: a12 :: a13 :: a14 :: a15 :: a16 :: .fz x :: r) k = k (.fz x) (a0 :: a1 :: a2 :: a3 :: a4 :: a5 :: a6 :: a7 :: a8 :: a9 :: a10 :: a11 :: a12 :: a13 :: a14 :: a15 :: a16 :: .fz x :: r) := rfl
theorem w_mf18 {a0 a1 a2 a3 a4 a5 a6 a7 a8 a9 a10 a11 a12 a13 a14 a15 a16 a17 : Sl} : w F (.mv 18) (a0 :: a1 :: a2 :: a3 :: a4 :: a5 :: a6 :: a7 :: a8 :: a9 :: a10 :: a11 :: a12 :: a13 :: a14 :: a15 :: a16 :: a17 :: .fz x :: r) k = k (.fz x) (a0 :: a1 :: a2 :: a3 :: a4 :: a5 :: a6 :: a7 :: a8 :: a9 :: a10 :: a11 :: a12 :: a13 :: a14 :: a15 :: a16 :: a17 :: .fz x :: r) := rfl
theorem w_mf19 {a0 a1 a2 a3 a4 a5 a6 a7 a8 a9 a10 a11 a12 a13 a14 a15 a16 a17 a18 : Sl} : w F (.mv 19) (a0 :: a1 :: a2 :: a3 :: a4 :: a5 :: a6 :: a7 :: a8 :: a9 :: a10 :: a11 :: a12 :: a13 :: a14 :: a15 :: a16 :: a17 :: a18 :: .fz x :: r) k = k (.fz x) (a0 :: a1 :: a2 :: a3 :: a4 :: a5 :: a6 :: a7 :: a8 :: a9 :: a10 :: a11 :: a12 :: a13 :: a14 :: a15 :: a16 :: a17 :: a18 :: .fz x :: r) := rfl
theorem w_mf20 {a0 a1 a2 a3 a4 a5 a6 a7 a8 a9 a10 a11 a12 a13 a14 a15 a16 a17 a18 a19 : Sl} : w F (.mv 20) (a0 :: a1 :: a2 :: a3 :: a4 :: a5 :: a6 :: a7 :: a8 :: a9 :: a10 :: a11 :: a12 :: a13 :: a14 :: a15 :: a16 :: a17 :: a18 :: a19 :: .fz x :: r) k = k (.fz x) (a0 :: a1 :: a2 :: a3 :: a4 :: a5 :: a6 :: a7 :: a8 :: a9 :: a10 :: a11 :: a12 :: a13 :: a14 :: a15 :: a16 :: a17 :: a18 :: a19 :: .fz x :: r) := rfl
theorem w_mf21 {a0 a1 a2 a3 a4 a5 a6 a7 a8 a9 a10 a11 a12 a13 a14 a15 a16 a17 a18 a19 a20 : Sl} : w F (.mv 21) (a0 :: a1 :: a2 :: a3 :: a4 :: a5 :: a6 :: a7 :: a8 :: a9 :: a10 :: a11 :: a12 :: a13 :: a14 :: a15 :: a16 :: a17 :: a18 :: a19 :: a20 :: .fz x :: r) k = k (.fz x) (a0 :: a1 :: a2 :: a3 :: a4 :: a5 :: a6 :: a7 :: a8 :: a9 :: a10 :: a11 :: a12 :: a13 :: a14 :: a15 :: a16 :: a17 :: a18 :: a19 :: a20 :: .fz x :: r) := rfl
theorem w_mf22 {a0 a1 a2 a3 a4 a5 a6 a7 a8 a9 a10 a11 a12 a13 a14 a15 a16 a17 a18 a19 a20 a21 : Sl} : w F (.mv 22) (a0 :: a1 :: a2 :: a3 :: a4 :: a5 :: a6 :: a7 :: a8 :: a9 :: a10 :: a11 :: a12 :: a13 :: a14 :: a15 :: a16 :: a17 :: a18 :: a19 :: a20 :: a21 :: .fz x :: r) k = k (.fz x) (a0 :: a1 :: a2 :: a3 :: a4 :: a5 :: a6 :: a7 :: a8 :: a9 :: a10 :: a11 :: a12 :: a13 :: a14 :: a15 :: a16 :: a17 :: a18 :: a19 :: a20 :: a21 :: .fz x :: r) := rfl
theorem w_mf23 {a0 a1 a2 a3 a4 a5 a6 a7 a8 a9 a10 a11 a12 a13 a14 a15 a16 a17 a18 a19 a20 a21 a22 : Sl} : w F (.mv 23) (a0 :: a1 :: a2 :: a3 :: a4 :: a5 :: a6 :: a7 :: a8 :: a9 :: a10 :: a11 :: a12 :: a13 :: a14 :: a15 :: a16 :: a17 :: a18 :: a19 :: a20 :: a21 :: a22 :: .fz x :: r) k = k (.fz x) (a0 :: a1 :: a2 :: a3 :: a4 :: a5 :: a6 :: a7 :: a8 :: a9 :: a10 :: a11 :: a12 :: a13 :: a14 :: a15 :: a16 :: a17 :: a18 :: a19 :: a20 :: a21 :: a22 :: .fz x :: r) := rfl
theorem w_mo0 : w F (.mv 0) (.ow x :: r) k = k (.fr x) (.no :: r) := rfl
theorem w_mo1 {a0 : Sl} : w F (.mv 1) (a0 :: .ow x :: r) k = k (.fr x) (a0 :: .no :: r) := rfl
theorem w_mo2 {a0 a1 : Sl} : w F (.mv 2) (a0 :: a1 :: .ow x :: r) k = k (.fr x) (a0 :: a1 :: .no :: r) := rfl
theorem w_mo3 {a0 a1 a2 : Sl} : w F (.mv 3) (a0 :: a1 :: a2 :: .ow x :: r) k = k (.fr x) (a0 :: a1 :: a2 :: .no :: r) := rfl
theorem w_mo4 {a0 a1 a2 a3 : Sl} : w F (.mv 4) (a0 :: a1 :: a2 :: a3 :: .ow x :: r) k = k (.fr x) (a0 :: a1 :: a2 :: a3 :: .no :: r) := rfl
theorem w_mo5 {a0 a1 a2 a3 a4 : Sl} : w F (.mv 5) (a0 :: a1 :: a2 :: a3 :: a4 :: .ow x :: r) k = k (.fr x) (a0 :: a1 :: a2 :: a3 :: a4 :: .no :: r) := rfl
theorem w_mo6 {a0 a1 a2 a3 a4 a5 : Sl} : w F (.mv 6) (a0 :: a1 :: a2 :: a3 :: a4 :: a5 :: .ow x :: r) k = k (.fr x) (a0 :: a1 :: a2 :: a3 :: a4 :: a5 :: .no :: r) := rfl
theorem w_mo7 {a0 a1 a2 a3 a4 a5 a6 : Sl} : w F (.mv 7) (a0 :: a1 :: a2 :: a3 :: a4 :: a5 :: a6 :: .ow x :: r) k = k (.fr x) (a0 :: a1 :: a2 :: a3 :: a4 :: a5 :: a6 :: .no :: r) := rfl
theorem w_mo8 {a0 a1 a2 a3 a4 a5 a6 a7 : Sl} : w F (.mv 8) (a0 :: a1 :: a2 :: a3 :: a4 :: a5 :: a6 :: a7 :: .ow x :: r) k = k (.fr x) (a0 :: a1 :: a2 :: a3 :: a4 :: a5 :: a6 :: a7 :: .no :: r) := rfl
theorem w_mo9 {a0 a1 a2 a3 a4 a5 a6 a7 a8 : Sl} : w F (.mv 9) (a0 :: a1 :: a2 :: a3 :: a4 :: a5 :: a6 :: a7 :: a8 :: .ow x :: r) k = k (.fr x) (a0 :: a1 :: a2 :: a3 :: a4 :: a5 :: a6 :: a7 :: a8 :: .no :: r) := rfl
theorem w_mo10 {a0 a1 a2 a3 a4 a5 a6 a7 a8 a9 : Sl} : w F (.mv 10) (a0 :: a1 :: a2 :: a3 :: a4 :: a5 :: a6 :: a7 :: a8 :: a9 :: .ow x :: r) k = k (.fr x) (a0 :: a1 :: a2 :: a3 :: a4 :: a5 :: a6 :: a7 :: a8 :: a9 :: .no :: r) := rfl
theorem w_mo11 {a0 a1 a2 a3 a4 a5 a6 a7 a8 a9 a10 : Sl} : w F (.mv 11) (a0 :: a1 :: a2 :: a3 :: a4 :: a5 :: a6 :: a7 :: a8 :: a9 :: a10 :: .ow x :: r) k = k (.fr x) (a0 :: a1 :: a2 :: a3 :: a4 :: a5 :: a6 :: a7 :: a8 :: a9 :: a10 :: .no :: r) := rfl
theorem w_mo12 {a0 a1 a2 a3 a4 a5 a6 a7 a8 a9 a10 a11 : Sl} : w F (.mv 12) (a0 :: a1 :: a2 :: a3 :: a4 :: a5 :: a6 :: a7 :: a8 :: a9 :: a10 :: a11 :: .ow x :: r) k = k (.fr x) (a0 :: a1 :: a2 :: a3 :: a4 :: a5 :: a6 :: a7 :: a8 :: a9 :: a10 :: a11 :: .no :: r) := rfl
theorem w_mo13 {a0 a1 a2 a3 a4 a5 a6 a7 a8 a9 a10 a11 a12 : Sl} : w F (.mv 13) (a0 :: a1 :: a2 :: a3 :: a4 :: a5 :: a6 :: a7 :: a8 :: a9 :: a10 :: a11 :: a12 :: .ow x :: r) k = k (.fr x) (a0 :: a1 :: a2 :: a3 :: a4 :: a5 :: a6 :: a7 :: a8 :: a9 :: a10 :: a11 :: a12 :: .no :: r) := rfl
theorem w_mo14 {a0 a1 a2 a3 a4 a5 a6 a7 a8 a9 a10 a11 a12 a13 : Sl} : w F (.mv 14) (a0 :: a1 :: a2 :: a3 :: a4 :: a5 :: a6 :: a7 :: a8 :: a9 :: a10 :: a11 :: a12 :: a13 :: .ow x :: r) k = k (.fr x) (a0 :: a1 :: a2 :: a3 :: a4 :: a5 :: a6 :: a7 :: a8 :: a9 :: a10 :: a11 :: a12 :: a13 :: .no :: r) := rfl
theorem w_mo15 {a0 a1 a2 a3 a4 a5 a6 a7 a8 a9 a10 a11 a12 a13 a14 : Sl} : w F (.mv 15) (a0 :: a1 :: a2 :: a3 :: a4 :: a5 :: a6 :: a7 :: a8 :: a9 :: a10 :: a11 :: a12 :: a13 :: a14 :: .ow x :: r) k = k (.fr x) (a0 :: a1 :: a2 :: a3 :: a4 :: a5 :: a6 :: a7 :: a8 :: a9 :: a10 :: a11 :: a12 :: a13 :: a14 :: .no :: r) := rfl
theorem w_mo16 {a0 a1 a2 a3 a4 a5 a6 a7 a8 a9 a10 a11 a12 a13 a14 a15 : Sl} : w F (.mv 16) (a0 :: a1 :: a2 :: a3 :: a4 :: a5 :: a6 :: a7 :: a8 :: a9 :: a10 :: a11 :: a12 :: a13 :: a14 :: a15 :: .ow x :: r) k = k (.fr x) (a0 :: a1 :: a2 :: a3 :: a4 :: a5 :: a6 :: a7 :: a8 :: a9 :: a10 :: a11 :: a12 :: a13 :: a14 :: a15 :: .no :: r) := rfl
theorem w_mo17 {a0 a1 a2 a3 a4 a5 a6 a7 a8 a9 a10 a11 a12 a13 a14 a15 a16 : Sl} : w F (.mv 17) (a0 :: a1 :: a2 :: a3 :: a4 :: a5 :: a6 :: a7 :: a8 :: a9 :: a10 :: a11 :: a12 :: a13 :: a14 :: a15 :: a16 :: .ow x :: r) k = k (.fr x) (a0 :: a1 :: a2 :: a3 :: a4 :: a5 :: a6 :: a7 :: a8 :: a9 :: a10 :: a11 :: a12 :: a13 :: a14 :: a15 :: a16 :: .no :: r) := rfl
theorem w_mo18 {a0 a1 a2 a3 a4 a5 a6 a7 a8 a9 a10 a11 a12 a13 a14 a15 a16 a17 : Sl} : w F (.mv 18) (a0 :: a1 :: a2 :: a3 :: a4 :: a5 :: a6 :: a7 :: a8 :: a9 :: a10 :: a11 :: a12 :: a13 :: a14 :: a15 :: a16 :: a17 :: .ow x :: r) k = k (.fr x) (a0 :: a1 :: a2 :: a3 :: a4 :: a5 :: a6 :: a7 :: a8 :: a9 :: a10 :: a11 :: a12 :: a13 :: a14 :: a15 :: a16 :: a17 :: .no :: r) := rfl
theorem w_mo19 {a0 a1 a2 a3 a4 a5 a6 a7 a8 a9 a10 a11 a12 a13 a14 a15 a16 a17 a18 : Sl} : w F (.mv 19) (a0 :: a1 :: a2 :: a3 :: a4 :: a5 :: a6 :: a7 :: a8 :: a9 :: a10 :: a11 :: a12 :: a13 :: a14 :: a15 :: a16 :: a17 :: a18 :: .ow x :: r) k = k (.fr x) (a0 :: a1 :: a2 :: a3 :: a4 :: a5 :: a6 :: a7 :: a8 :: a9 :: a10 :: a11 :: a12 :: a13 :: a14 :: a15 :: a16 :: a17 :: a18 :: .no :: r) := rfl
theorem w_mo20 {a0 a1 a2 a3 a4 a5 a6 a7 a8 a9 a10 a11 a12 a13 a14 a15 a16 a17 a18 a19 : Sl} : w F (.mv 20) (a0 :: a1 :: a2 :: a3 :: a4 :: a5 :: a6 :: a7 :: a8 :: a9 :: a10 :: a11 :: a12 :: a13 :: a14 :: a15 :: a16 :: a17 :: a18 :: a19 :: .ow x :: r) k = k (.fr x) (a0 :: a1 :: a2 :: a3 :: a4 :: a5 :: a6 :: a7 :: a8 :: a9 :: a10 :: a11 :: a12 :: a13 :: a14 :: a15 :: a16 :: a17 :: a18 :: a19 :: .no :: r) := rfl
theorem w_mo21 {a0 a1 a2 a3 a4 a5 a6 a7 a8 a9 a10 a11 a12 a13 a14 a15 a16 a17 a18 a19 a20 : Sl} : w F (.mv 21) (a0 :: a1 :: a2 :: a3 :: a4 :: a5 :: a6 :: a7 :: a8 :: a9 :: a10 :: a11 :: a12 :: a13 :: a14 :: a15 :: a16 :: a17 :: a18 :: a19 :: a20 :: .ow x :: r) k = k (.fr x) (a0 :: a1 :: a2 :: a3 :: a4 :: a5 :: a6 :: a7 :: a8 :: a9 :: a10 :: a11 :: a12 :: a13 :: a14 :: a15 :: a16 :: a17 :: a18 :: a19 :: a20 :: .no :: r) := rfl
theorem w_mo22 {a0 a1 a2 a3 a4 a5 a6 a7 a8 a9 a10 a11 a12 a13 a14 a15 a16 a17 a18 a19 a20 a21 : Sl} : w F (.mv 22) (a0 :: a1 :: a2 :: a3 :: a4 :: a5 :: a6 :: a7 :: a8 :: a9 :: a10 :: a11 :: a12 :: a13 :: a14 :: a15 :: a16 :: a17 :: a18 :: a19 :: a20 :: a21 :: .ow x :: r) k = k (.fr x) (a0 :: a1 :: a2 :: a3 :: a4 :: a5 :: a6 :: a7 :: a8 :: a9 :: a10 :: a11 :: a12 :: a13 :: a14 :: a15 :: a16 :: a17 :: a18 :: a19 :: a20 :: a21 :: .no :: r) := rfl
theorem w_mo23 {a0 a1 a2 a3 a4 a5 a6 a7 a8 a9 a10 a11 a12 a13 a14 a15 a16 a17 a18 a19 a20 a21 a22 : Sl} : w F (.mv 23) (a0 :: a1 :: a2 :: a3 :: a4 :: a5 :: a6 :: a7 :: a8 :: a9 :: a10 :: a11 :: a12 :: a13 :: a14 :: a15 :: a16 :: a17 :: a18 :: a19 :: a20 :: a21 :: a22 :: .ow x :: r) k = k (.fr x) (a0 :: a1 :: a2 :: a3 :: a4 :: a5 :: a6 :: a7 :: a8 :: a9 :: a10 :: a11 :: a12 :: a13 :: a14 :: a15 :: a16 :: a17 :: a18 :: a19 :: a20 :: a21 :: a22 :: .no :: r) := rfl
theorem w_op {o : Bop} : w F (.op o a b) env k = w F a env fun va e1 => w F b e1 fun vb e2 => with1 va e2 fun x => with1 vb e2 fun y => bopS o x y fun fr d => k (rets fr d) e2 := rfl
theorem w_neg : w F (.neg a) env k = w F a env fun va e1 => ∃ i, va = .fz (.int i) ∧ k (.fz (.int (-i))) e1 := rfl
theorem w_cmp {o : Cop} : w F (.cmp o a b) env k = w F a env fun va e1 => w F b e1 fun vb e2 => with1 va e2 fun x => with1 vb e2 fun y => cmpS o x y fun r => k (.fz (.bool r)) e2 := rfl
theorem w_ch2 {o o' : Cop} : w F (.ch2 o o' a b e) env k = w F a env fun va e1 => w F b e1 fun vb e2 => with1 va e2 fun x => with1 vb e2 fun y => cmpS o x y fun r =>
      if r = true then w F e e2 fun ve e3 => with1 vb e3 fun y => with1 ve e3 fun z => cmpS o' y z fun r => k (.fz (.bool r)) e3 else k (.fz (.bool false)) e2 := rfl
theorem w_isN : w F (.isN a) env k = w F a env fun va e1 => with1 va e1 fun x => k (.fz (.bool (isNoneD x))) e1 := rfl
theorem w_notN : w F (.notN a) env k = w F a env fun va e1 => with1 va e1 fun x => k (.fz (.bool (!isNoneD x))) e1 := rfl
theorem w_isB : w F (.isB p a) env k = w F a env fun va e1 => ∃ c, va = .fz (.bool c) ∧ k (.fz (.bool (c == p))) e1 := rfl
theorem w_notB : w F (.notB p a) env k = w F a env fun va e1 => ∃ c, va = .fz (.bool c) ∧ k (.fz (.bool (c != p))) e1 := rfl
theorem w_and : w F (.and a b) env k = w F a env fun va e1 => truth va fun c => if c = true then w F b e1 fun vb e2 => truth vb fun c => k (.fz (.bool c)) e2 else k (.fz (.bool false)) e1 := rfl
theorem w_or : w F (.or a b) env k = w F a env fun va e1 => truth va fun c => if c = true then k (.fz (.bool true)) e1 else w F b e1 fun vb e2 => truth vb fun c => k (.fz (.bool c)) e2 := rfl
theorem w_not : w F (.not a) env k = w F a env fun va e1 => truth va fun c => k (.fz (.bool (!c))) e1 := rfl
theorem w_ite : w F (.ite a b c) env k = w F a env fun vt e1 => truth vt fun q => if q = true then w F b e1 k else w F c e1 k := rfl
theorem w_nil : w F .nil env k = k (.fz (.tuple [])) env := rfl
theorem w_cons : w F (.cons a b) env k = w F a env fun va e1 => va.give e1 fun x e2 => w F b e2 fun vb e3 => ∃ xs, vb = .fz (.tuple xs) ∧ k (.fz (.tuple (x :: xs))) e3 := rfl
theorem w_star : w F (.star a b) env k = w F a env fun va e1 => va.give e1 fun x e2 => ∃ ys, items? x = some ys ∧ w F b e2 fun vb e3 => ∃ xs, vb = .fz (.tuple xs) ∧ k (.fz (.tuple (ys ++ xs))) e3 := rfl
theorem w_tup : w F (.tup a) env k = w F a env fun va e1 => ∃ xs, va = .fz (.tuple xs) ∧ Fits xs.length ∧ k (.fz (.tuple xs)) e1 := rfl
theorem w_lst : w F (.lst a) env k = w F a env fun va e1 => ∃ xs, va = .fz (.tuple xs) ∧ Fits xs.length ∧ k (.fr (.list xs)) e1 := rfl
theorem w_idx : w F (.idx a b) env k = w F a env fun va e1 => w F b e1 fun vb e2 => with1 va e2 fun x => with1 vb e2 fun y => idxS x y fun d => k (.fz d) e2 := rfl
theorem w_slc : w F (.slc p q a b c) env k = w F a env fun va e1 => w F b e1 fun vl e2 => ∃ l, partOf p vl = some l ∧ w F c e2 fun vh e3 => ∃ h, partOf q vh = some h ∧ with1 va e3 fun x => slcS x l h fun fr d => k (rets fr d) e3 := rfl
theorem w_revL : w F (.revL a) env k = w F a env fun va e1 => with1 va e1 fun x => ∃ xs, x = .list xs ∧ k (.fr (.list xs.reverse)) e1 := rfl
theorem w_b1 {o : B1} : w F (.b1 o a) env k = w F a env fun va e1 => with1 va e1 fun x => b1S o x fun fr d => k (rets fr d) e1 := rfl
theorem w_b2max2 : w F (.b2 .max2 a b) env k = w F a env fun va e1 => w F b e1 fun vb e2 => with1 va e2 fun x => with1 vb e2 fun y => b2S .max2 x y fun fr d => k (rets fr d) e2 := congrArg (w F a env) (funext fun va => funext fun e1 => propext ⟨And.right, fun h => ⟨True.intro, h⟩⟩)
theorem w_b2min2 : w F (.b2 .min2 a b) env k = w F a env fun va e1 => w F b e1 fun vb e2 => with1 va e2 fun x => with1 vb e2 fun y => b2S .min2 x y fun fr d => k (rets fr d) e2 := congrArg (w F a env) (funext fun va => funext fun e1 => propext ⟨And.right, fun h => ⟨True.intro, h⟩⟩)
theorem w_b2gcd : w F (.b2 .gcd a b) env k = w F a env fun va e1 => w F b e1 fun vb e2 => with1 va e2 fun x => with1 vb e2 fun y => b2S .gcd x y fun fr d => k (rets fr d) e2 := congrArg (w F a env) (funext fun va => funext fun e1 => propext ⟨And.right, fun h => ⟨True.intro, h⟩⟩)
theorem w_b2indexL : w F (.b2 .indexL a b) env k = w F a env fun va e1 => isD .indexL va e1 ∧ w F b e1 fun vb e2 => with1 va e2 fun x => with1 vb e2 fun y => b2S .indexL x y fun fr d => k (rets fr d) e2 := rfl
theorem w_b2indexT : w F (.b2 .indexT a b) env k = w F a env fun va e1 => isD .indexT va e1 ∧ w F b e1 fun vb e2 => with1 va e2 fun x => with1 vb e2 fun y => b2S .indexT x y fun fr d => k (rets fr d) e2 := rfl
theorem w_dic : w F (.dic a) env k = w F a env fun va e1 => ∃ xs, va = .fz (.tuple xs) ∧ ∃ ps, pairs? xs = some ps ∧ ps.length ≤ 15 ∧ k (.fr (.dict (putAll [] ps))) e1 := rfl
theorem w_dget : w F (.dget a b) env k = w F a env fun va e1 => w F b e1 fun vb e2 => with1 va e2 fun x => with1 vb e2 fun y => dgetS x y fun d => k (.fz d) e2 := rfl
theorem w_dgetd : w F (.dgetd a b e) env k = w F a env fun va e1 => isDict va e1 ∧ w F b e1 fun vb e2 => w F e e2 fun ve e3 => ve.give e3 fun z e4 => with1 va e4 fun x => with1 vb e4 fun y => dgetdS x y z fun d => k (.fz d) e4 := rfl
theorem w_dIn : w F (.dIn q a b) env k = w F a env fun va e1 => w F b e1 fun vb e2 => with1 va e2 fun x => with1 vb e2 fun y => dinS x y fun c => k (.fz (.bool (c != q))) e2 := rfl
theorem w_slcT : w F (.slcT q i a b) env k = w F a env fun va e1 => w F b e1 fun vl e2 => ∃ p, partOf q vl = some p ∧ with1 va e2 fun x => pickS x i p fun d => k (.fz d) e2 := rfl
theorem w_lrngT : w F (.lrng true f a) env k = w F a env fun va e1 => ∃ xs, va = .fz (.tuple xs) ∧ rngOf f xs fun ys => k (.fr (.list ys)) e1 := rfl
theorem w_lrngF : w F (.lrng false f a) env k = w F a env fun va e1 => ∃ xs, va = .fz (.tuple xs) ∧ rngOf f xs fun ys => k (.fz (.tuple ys)) e1 := rfl
theorem w_pop0 : w F (.pop0 f) env k = pop0End f env k := rfl
theorem w_pop1 : w F (.pop1 f a) env k = (ownL f env ∧ w F a env fun va e1 => ∃ j : Int, va = .fz (.int j) ∧ pop1End f j e1 k) := rfl
theorem w_call : w F (.call f so a) env k = (srcAt so env ∧ w F a env fun va e1 => ∃ xs, va = .fz (.tuple xs) ∧ callF F f xs (fun fr d => k (rets fr d) e1) (Hold.mk _)) := rfl
theorem w_comp {ik : Ik} : w F (.comp is ik a tg b e) env k = w F a env fun vi e1 => vi.give e1 fun d e2 => walks ik d fun ds => compS F is tg b e ds e2 k (Hold.mk _) := rfl
theorem s_skip : wS F .skip env ⟨nx, rt, bk⟩ = nx env := rfl
theorem s_seq : wS F (.seq sa sb) env ⟨nx, rt, bk⟩ = wS F sa env ⟨fun e => wS F sb e ⟨nx, rt, bk⟩, rt, bk⟩ := rfl
theorem s_set : wS F (.set f a) env ⟨nx, rt, bk⟩ = w F a env fun v e1 => setV f v e1 nx := rfl
theorem s_unp : wS F (.unp tg a) env ⟨nx, rt, bk⟩ = w F a env fun v e1 => v.give e1 fun d e2 => bindT tg d e2 nx := rfl
theorem s_par : wS F (.par is a) env ⟨nx, rt, bk⟩ = wPar F a env fun vs e1 => parEnd is vs e1 nx := by
  simp only [wS]
  congr 1
  funext vs e1
  exact propext (parEnd_iff is vs e1 nx)
theorem p_nil : wPar F .nil env kp = kp [] env := rfl
theorem p_cons : wPar F (.cons a b) env kp = w F a env fun v e1 => hold v e1 fun v' e2 => wPar F b e2 fun vs e3 => kp (v' :: vs) e3 := rfl
theorem h_fz : hold (.fz x) env k = k (.fz x) env := rfl
theorem h_fr : hold (.fr x) env k = k (.fr x) env := rfl
theorem h_bw : hold (.bw m) env k = Vl.give (.bw m) env fun d e => k (.fz d) e := rfl
theorem pe_nil : parEnd [] [] env n = n env := rfl
theorem pe_cons : parEnd (f :: is) (v :: vs) env n = parEnd is vs env fun e => putS f (slotV v) e n := rfl
theorem sl_fz : slotV (.fz x) = .fz x := rfl
theorem sl_fr : slotV (.fr x) = .ow x := rfl
theorem put0 : putS 0 sl (sx :: r) n = n (sl :: r) := propext ⟨fun h => h.2, fun h => ⟨by simp, h⟩⟩
theorem put1 {a0 : Sl} : putS 1 sl (a0 :: sx :: r) n = n (a0 :: sl :: r) := propext ⟨fun h => h.2, fun h => ⟨by simp, h⟩⟩
theorem put2 {a0 a1 : Sl} : putS 2 sl (a0 :: a1 :: sx :: r) n = n (a0 :: a1 :: sl :: r) := propext ⟨fun h => h.2, fun h => ⟨by simp, h⟩⟩
theorem put3 {a0 a1 a2 : Sl} : putS 3 sl (a0 :: a1 :: a2 :: sx :: r) n = n (a0 :: a1 :: a2 :: sl :: r) := propext ⟨fun h => h.2, fun h => ⟨by simp, h⟩⟩
theorem put4 {a0 a1 a2 a3 : Sl} : putS 4 sl (a0 :: a1 :: a2 :: a3 :: sx :: r) n = n (a0 :: a1 :: a2 :: a3 :: sl :: r) := propext ⟨fun h => h.2, fun h => ⟨by simp, h⟩⟩
theorem put5 {a0 a1 a2 a3 a4 : Sl} : putS 5 sl (a0 :: a1 :: a2 :: a3 :: a4 :: sx :: r) n = n (a0 :: a1 :: a2 :: a3 :: a4 :: sl :: r) := propext ⟨fun h => h.2, fun h => ⟨by simp, h⟩⟩
theorem put6 {a0 a1 a2 a3 a4 a5 : Sl} : putS 6 sl (a0 :: a1 :: a2 :: a3 :: a4 :: a5 :: sx :: r) n = n (a0 :: a1 :: a2 :: a3 :: a4 :: a5 :: sl :: r) := propext ⟨fun h => h.2, fun h => ⟨by simp, h⟩⟩
theorem put7 {a0 a1 a2 a3 a4 a5 a6 : Sl} : putS 7 sl (a0 :: a1 :: a2 :: a3 :: a4 :: a5 :: a6 :: sx :: r) n = n (a0 :: a1 :: a2 :: a3 :: a4 :: a5 :: a6 :: sl :: r) := propext ⟨fun h => h.2, fun h => ⟨by simp, h⟩⟩
theorem put8 {a0 a1 a2 a3 a4 a5 a6 a7 : Sl} : putS 8 sl (a0 :: a1 :: a2 :: a3 :: a4 :: a5 :: a6 :: a7 :: sx :: r) n = n (a0 :: a1 :: a2 :: a3 :: a4 :: a5 :: a6 :: a7 :: sl :: r) := propext ⟨fun h => h.2, fun h => ⟨by simp, h⟩⟩
theorem put9 {a0 a1 a2 a3 a4 a5 a6 a7 a8 : Sl} : putS 9 sl (a0 :: a1 :: a2 :: a3 :: a4 :: a5 :: a6 :: a7 :: a8 :: sx :: r) n = n (a0 :: a1 :: a2 :: a3 :: a4 :: a5 :: a6 :: a7 :: a8 :: sl :: r) := propext ⟨fun h => h.2, fun h => ⟨by simp, h⟩⟩
theorem put10 {a0 a1 a2 a3 a4 a5 a6 a7 a8 a9 : Sl} : putS 10 sl (a0 :: a1 :: a2 :: a3 :: a4 :: a5 :: a6 :: a7 :: a8 :: a9 :: sx :: r) n = n (a0 :: a1 :: a2 :: a3 :: a4 :: a5 :: a6 :: a7 :: a8 :: a9 :: sl :: r) := propext ⟨fun h => h.2, fun h => ⟨by simp, h⟩⟩
theorem put11 {a0 a1 a2 a3 a4 a5 a6 a7 a8 a9 a10 : Sl} : putS 11 sl (a0 :: a1 :: a2 :: a3 :: a4 :: a5 :: a6 :: a7 :: a8 :: a9 :: a10 :: sx :: r) n = n (a0 :: a1 :: a2 :: a3 :: a4 :: a5 :: a6 :: a7 :: a8 :: a9 :: a10 :: sl :: r) := propext ⟨fun h => h.2, fun h => ⟨by simp, h⟩⟩
theorem put12 {a0 a1 a2 a3 a4 a5 a6 a7 a8 a9 a10 a11 : Sl} : putS 12 sl (a0 :: a1 :: a2 :: a3 :: a4 :: a5 :: a6 :: a7 :: a8 :: a9 :: a10 :: a11 :: sx :: r) n = n (a0 :: a1 :: a2 :: a3 :: a4 :: a5 :: a6 :: a7 :: a8 :: a9 :: a10 :: a11 :: sl :: r) := propext ⟨fun h => h.2, fun h => ⟨by simp, h⟩⟩
theorem put13 {a0 a1 a2 a3 a4 a5 a6 a7 a8 a9 a10 a11 a12 : Sl} : putS 13 sl (a0 :: a1 :: a2 :: a3 :: a4 :: a5 :: a6 :: a7 :: a8 :: a9 :: a10 :: a11 :: a12 :: sx :: r) n = n (a0 :: a1 :: a2 :: a3 :: a4 :: a5 :: a6 :: a7 :: a8 :: a9 :: a10 :: a11 :: a12 :: sl :: r) := propext ⟨fun h => h.2, fun h => ⟨by simp, h⟩⟩
theorem put14 {a0 a1 a2 a3 a4 a5 a6 a7 a8 a9 a10 a11 a12 a13 : Sl} : putS 14 sl (a0 :: a1 :: a2 :: a3 :: a4 :: a5 :: a6 :: a7 :: a8 :: a9 :: a10 :: a11 :: a12 :: a13 :: sx :: r) n = n (a0 :: a1 :: a2 :: a3 :: a4 :: a5 :: a6 :: a7 :: a8 :: a9 :: a10 :: a11 :: a12 :: a13 :: sl :: r) := propext ⟨fun h => h.2, fun h => ⟨by simp, h⟩⟩
theorem put15 {a0 a1 a2 a3 a4 a5 a6 a7 a8 a9 a10 a11 a12 a13 a14 : Sl} : putS 15 sl (a0 :: a1 :: a2 :: a3 :: a4 :: a5 :: a6 :: a7 :: a8 :: a9 :: a10 :: a11 :: a12 :: a13 :: a14 :: sx :: r) n = n (a0 :: a1 :: a2 :: a3 :: a4 :: a5 :: a6 :: a7 :: a8 :: a9 :: a10 :: a11 :: a12 :: a13 :: a14 :: sl :: r) := propext ⟨fun h => h.2, fun h => ⟨by simp, h⟩⟩
theorem put16 {a0 a1 a2 a3 a4 a5 a6 a7 a8 a9 a10 a11 a12 a13 a14 a15 : Sl} : putS 16 sl (a0 :: a1 :: a2 :: a3 :: a4 :: a5 :: a6 :: a7 :: a8 :: a9 :: a10 :: a11 :: a12 :: a13 :: a14 :: a15 :: sx :: r) n = n (a0 :: a1 :: a2 :: a3 :: a4 :: a5 :: a6 :: a7 :: a8 :: a9 :: a10 :: a11 :: a12 :: a13 :: a14 :: a15 :: sl :: r) := propext ⟨fun h => h.2, fun h => ⟨by simp, h⟩⟩
theorem put17 {a0 a1 a2 a3 a4 a5 a6 a7 a8 a9 a10 a11 a12 a13 a14 a15 a16 : Sl} : putS 17 sl (a0 :: a1 :: a2 :: a3 :: a4 :: a5 :: a6 :: a7 :: a8 :: a9 :: a10 :: a11 :: a12 :: a13 :: a14 :: a15 :: a16 :: sx :: r) n = n (a0 :: a1 :: a2 :: a3 :: a4 :: a5 :: a6 :: a7 :: a8 :: a9 :: a10 :: a11 :: a12 :: a13 :: a14 :: a15 :: a16 :: sl :: r) := propext ⟨fun h => h.2, fun h => ⟨by simp, h⟩⟩
theorem put18 {a0 a1 a2 a3 a4 a5 a6 a7 a8 a9 a10 a11 a12 a13 a14 a15 a16 a17 : Sl} : putS 18 sl (a0 :: a1 :: a2 :: a3 :: a4 :: a5 :: a6 :: a7 :: a8 :: a9 :: a10 :: a11 :: a12 :: a13 :: a14 :: a15 :: a16 :: a17 :: sx :: r) n = n (a0 :: a1 :: a2 :: a3 :: a4 :: a5 :: a6 :: a7 :: a8 :: a9 :: a10 :: a11 :: a12 :: a13 :: a14 :: a15 :: a16 :: a17 :: sl :: r) := propext ⟨fun h => h.2, fun h => ⟨by simp, h⟩⟩
theorem put19 {a0 a1 a2 a3 a4 a5 a6 a7 a8 a9 a10 a11 a12 a13 a14 a15 a16 a17 a18 : Sl} : putS 19 sl (a0 :: a1 :: a2 :: a3 :: a4 :: a5 :: a6 :: a7 :: a8 :: a9 :: a10 :: a11 :: a12 :: a13 :: a14 :: a15 :: a16 :: a17 :: a18 :: sx :: r) n = n (a0 :: a1 :: a2 :: a3 :: a4 :: a5 :: a6 :: a7 :: a8 :: a9 :: a10 :: a11 :: a12 :: a13 :: a14 :: a15 :: a16 :: a17 :: a18 :: sl :: r) := propext ⟨fun h => h.2, fun h => ⟨by simp, h⟩⟩
theorem put20 {a0 a1 a2 a3 a4 a5 a6 a7 a8 a9 a10 a11 a12 a13 a14 a15 a16 a17 a18 a19 : Sl} : putS 20 sl (a0 :: a1 :: a2 :: a3 :: a4 :: a5 :: a6 :: a7 :: a8 :: a9 :: a10 :: a11 :: a12 :: a13 :: a14 :: a15 :: a16 :: a17 :: a18 :: a19 :: sx :: r) n = n (a0 :: a1 :: a2 :: a3 :: a4 :: a5 :: a6 :: a7 :: a8 :: a9 :: a10 :: a11 :: a12 :: a13 :: a14 :: a15 :: a16 :: a17 :: a18 :: a19 :: sl :: r) := propext ⟨fun h => h.2, fun h => ⟨by simp, h⟩⟩
theorem put21 {a0 a1 a2 a3 a4 a5 a6 a7 a8 a9 a10 a11 a12 a13 a14 a15 a16 a17 a18 a19 a20 : Sl} : putS 21 sl (a0 :: a1 :: a2 :: a3 :: a4 :: a5 :: a6 :: a7 :: a8 :: a9 :: a10 :: a11 :: a12 :: a13 :: a14 :: a15 :: a16 :: a17 :: a18 :: a19 :: a20 :: sx :: r) n = n (a0 :: a1 :: a2 :: a3 :: a4 :: a5 :: a6 :: a7 :: a8 :: a9 :: a10 :: a11 :: a12 :: a13 :: a14 :: a15 :: a16 :: a17 :: a18 :: a19 :: a20 :: sl :: r) := propext ⟨fun h => h.2, fun h => ⟨by simp, h⟩⟩
theorem put22 {a0 a1 a2 a3 a4 a5 a6 a7 a8 a9 a10 a11 a12 a13 a14 a15 a16 a17 a18 a19 a20 a21 : Sl} : putS 22 sl (a0 :: a1 :: a2 :: a3 :: a4 :: a5 :: a6 :: a7 :: a8 :: a9 :: a10 :: a11 :: a12 :: a13 :: a14 :: a15 :: a16 :: a17 :: a18 :: a19 :: a20 :: a21 :: sx :: r) n = n (a0 :: a1 :: a2 :: a3 :: a4 :: a5 :: a6 :: a7 :: a8 :: a9 :: a10 :: a11 :: a12 :: a13 :: a14 :: a15 :: a16 :: a17 :: a18 :: a19 :: a20 :: a21 :: sl :: r) := propext ⟨fun h => h.2, fun h => ⟨by simp, h⟩⟩
theorem put23 {a0 a1 a2 a3 a4 a5 a6 a7 a8 a9 a10 a11 a12 a13 a14 a15 a16 a17 a18 a19 a20 a21 a22 : Sl} : putS 23 sl (a0 :: a1 :: a2 :: a3 :: a4 :: a5 :: a6 :: a7 :: a8 :: a9 :: a10 :: a11 :: a12 :: a13 :: a14 :: a15 :: a16 :: a17 :: a18 :: a19 :: a20 :: a21 :: a22 :: sx :: r) n = n (a0 :: a1 :: a2 :: a3 :: a4 :: a5 :: a6 :: a7 :: a8 :: a9 :: a10 :: a11 :: a12 :: a13 :: a14 :: a15 :: a16 :: a17 :: a18 :: a19 :: a20 :: a21 :: a22 :: sl :: r) := propext ⟨fun h => h.2, fun h => ⟨by simp, h⟩⟩
theorem s_app : wS F (.app f a) env ⟨nx, rt, bk⟩ = (ownL f env ∧ w F a env fun v e1 => v.give e1 fun y e2 => appEnd f y e2 nx) := rfl
theorem s_ext : wS F (.ext f a) env ⟨nx, rt, bk⟩ = (ownL f env ∧ w F a env fun v e1 => v.give e1 fun y e2 => extEnd f y e2 nx) := rfl
theorem s_popS : wS F (.popS f) env ⟨nx, rt, bk⟩ = popSEnd f env nx := rfl
theorem s_sto : wS F (.sto f a e) env ⟨nx, rt, bk⟩ = w F e env fun v e1 => v.give e1 fun y e2 => (ownL f e2 ∧ w F a e2 fun va e3 => ∃ j : Int, va = .fz (.int j) ∧ stoEnd f y j e3 nx) := rfl
theorem s_sto2 : wS F (.sto2 f a b e) env ⟨nx, rt, bk⟩ = w F e env fun v e1 => ∃ x y, v = .fz (.tuple [x, y]) ∧ (ownL f e1 ∧ w F a e1 fun va e3 => ∃ j : Int, va = .fz (.int j) ∧ stoEnd f x j e3 fun e2 =>
      (ownL f e2 ∧ w F b e2 fun va e3 => ∃ j : Int, va = .fz (.int j) ∧ stoEnd f y j e3 nx)) := rfl
theorem s_ifs : wS F (.ifs a sa sb) env ⟨nx, rt, bk⟩ = w F a env fun v e1 => truth v fun c => if c = true then wS F sa e1 ⟨nx, rt, bk⟩ else wS F sb e1 ⟨nx, rt, bk⟩ := rfl
theorem s_for {ik : Ik} : wS F (.forS ik a tg sa) env ⟨nx, rt, bk⟩ = w F a env fun vi e1 => vi.give e1 fun d e2 => walks ik d fun ds => loopS F tg sa ds e2 ⟨nx, rt, bk⟩ (Hold.mk _) := rfl
theorem s_whl : wS F (.whl a sa) env ⟨nx, rt, bk⟩ = whlS F a sa env ⟨nx, rt, bk⟩ (Hold.mk _) := rfl
theorem s_ret : wS F (.ret a) env ⟨nx, rt, bk⟩ = w F a env fun v e1 => retV v e1 rt := rfl
theorem s_brk : wS F .brk env ⟨nx, rt, bk⟩ = bk env := rfl
theorem s_nev : wS F .nev env ⟨nx, rt, bk⟩ = False := rfl
theorem r_fz : retV (.fz x) env rt = rt false x := rfl
theorem r_fr : retV (.fr x) env rt = rt true x := rfl
theorem r_bo0 : retV (.bw 0) (.ow x :: r) rt = rt true x := rfl
theorem r_bo1 {a0 : Sl} : retV (.bw 1) (a0 :: .ow x :: r) rt = rt true x := rfl
theorem r_bo2 {a0 a1 : Sl} : retV (.bw 2) (a0 :: a1 :: .ow x :: r) rt = rt true x := rfl
theorem r_bo3 {a0 a1 a2 : Sl} : retV (.bw 3) (a0 :: a1 :: a2 :: .ow x :: r) rt = rt true x := rfl
theorem r_bo4 {a0 a1 a2 a3 : Sl} : retV (.bw 4) (a0 :: a1 :: a2 :: a3 :: .ow x :: r) rt = rt true x := rfl
theorem r_bo5 {a0 a1 a2 a3 a4 : Sl} : retV (.bw 5) (a0 :: a1 :: a2 :: a3 :: a4 :: .ow x :: r) rt = rt true x := rfl
theorem r_bo6 {a0 a1 a2 a3 a4 a5 : Sl} : retV (.bw 6) (a0 :: a1 :: a2 :: a3 :: a4 :: a5 :: .ow x :: r) rt = rt true x := rfl
theorem r_bo7 {a0 a1 a2 a3 a4 a5 a6 : Sl} : retV (.bw 7) (a0 :: a1 :: a2 :: a3 :: a4 :: a5 :: a6 :: .ow x :: r) rt = rt true x := rfl
theorem r_bo8 {a0 a1 a2 a3 a4 a5 a6 a7 : Sl} : retV (.bw 8) (a0 :: a1 :: a2 :: a3 :: a4 :: a5 :: a6 :: a7 :: .ow x :: r) rt = rt true x := rfl
theorem r_bo9 {a0 a1 a2 a3 a4 a5 a6 a7 a8 : Sl} : retV (.bw 9) (a0 :: a1 :: a2 :: a3 :: a4 :: a5 :: a6 :: a7 :: a8 :: .ow x :: r) rt = rt true x := rfl
theorem r_bo10 {a0 a1 a2 a3 a4 a5 a6 a7 a8 a9 : Sl} : retV (.bw 10) (a0 :: a1 :: a2 :: a3 :: a4 :: a5 :: a6 :: a7 :: a8 :: a9 :: .ow x :: r) rt = rt true x := rfl
theorem r_bo11 {a0 a1 a2 a3 a4 a5 a6 a7 a8 a9 a10 : Sl} : retV (.bw 11) (a0 :: a1 :: a2 :: a3 :: a4 :: a5 :: a6 :: a7 :: a8 :: a9 :: a10 :: .ow x :: r) rt = rt true x := rfl
theorem r_bo12 {a0 a1 a2 a3 a4 a5 a6 a7 a8 a9 a10 a11 : Sl} : retV (.bw 12) (a0 :: a1 :: a2 :: a3 :: a4 :: a5 :: a6 :: a7 :: a8 :: a9 :: a10 :: a11 :: .ow x :: r) rt = rt true x := rfl
theorem r_bo13 {a0 a1 a2 a3 a4 a5 a6 a7 a8 a9 a10 a11 a12 : Sl} : retV (.bw 13) (a0 :: a1 :: a2 :: a3 :: a4 :: a5 :: a6 :: a7 :: a8 :: a9 :: a10 :: a11 :: a12 :: .ow x :: r) rt = rt true x := rfl
theorem r_bo14 {a0 a1 a2 a3 a4 a5 a6 a7 a8 a9 a10 a11 a12 a13 : Sl} : retV (.bw 14) (a0 :: a1 :: a2 :: a3 :: a4 :: a5 :: a6 :: a7 :: a8 :: a9 :: a10 :: a11 :: a12 :: a13 :: .ow x :: r) rt = rt true x := rfl
theorem r_bo15 {a0 a1 a2 a3 a4 a5 a6 a7 a8 a9 a10 a11 a12 a13 a14 : Sl} : retV (.bw 15) (a0 :: a1 :: a2 :: a3 :: a4 :: a5 :: a6 :: a7 :: a8 :: a9 :: a10 :: a11 :: a12 :: a13 :: a14 :: .ow x :: r) rt = rt true x := rfl
theorem r_bo16 {a0 a1 a2 a3 a4 a5 a6 a7 a8 a9 a10 a11 a12 a13 a14 a15 : Sl} : retV (.bw 16) (a0 :: a1 :: a2 :: a3 :: a4 :: a5 :: a6 :: a7 :: a8 :: a9 :: a10 :: a11 :: a12 :: a13 :: a14 :: a15 :: .ow x :: r) rt = rt true x := rfl
theorem r_bo17 {a0 a1 a2 a3 a4 a5 a6 a7 a8 a9 a10 a11 a12 a13 a14 a15 a16 : Sl} : retV (.bw 17) (a0 :: a1 :: a2 :: a3 :: a4 :: a5 :: a6 :: a7 :: a8 :: a9 :: a10 :: a11 :: a12 :: a13 :: a14 :: a15 :: a16 :: .ow x :: r) rt = rt true x := rfl
theorem r_bo18 {a0 a1 a2 a3 a4 a5 a6 a7 a8 a9 a10 a11 a12 a13 a14 a15 a16 a17 : Sl} : retV (.bw 18) (a0 :: a1 :: a2 :: a3 :: a4 :: a5 :: a6 :: a7 :: a8 :: a9 :: a10 :: a11 :: a12 :: a13 :: a14 :: a15 :: a16 :: a17 :: .ow x :: r) rt = rt true x := rfl
theorem r_bo19 {a0 a1 a2 a3 a4 a5 a6 a7 a8 a9 a10 a11 a12 a13 a14 a15 a16 a17 a18 : Sl} : retV (.bw 19) (a0 :: a1 :: a2 :: a3 :: a4 :: a5 :: a6 :: a7 :: a8 :: a9 :: a10 :: a11 :: a12 :: a13 :: a14 :: a15 :: a16 :: a17 :: a18 :: .ow x :: r) rt = rt true x := rfl
theorem r_bo20 {a0 a1 a2 a3 a4 a5 a6 a7 a8 a9 a10 a11 a12 a13 a14 a15 a16 a17 a18 a19 : Sl} : retV (.bw 20) (a0 :: a1 :: a2 :: a3 :: a4 :: a5 :: a6 :: a7 :: a8 :: a9 :: a10 :: a11 :: a12 :: a13 :: a14 :: a15 :: a16 :: a17 :: a18 :: a19 :: .ow x :: r) rt = rt true x := rfl
theorem r_bo21 {a0 a1 a2 a3 a4 a5 a6 a7 a8 a9 a10 a11 a12 a13 a14 a15 a16 a17 a18 a19 a20 : Sl} : retV (.bw 21) (a0 :: a1 :: a2 :: a3 :: a4 :: a5 :: a6 :: a7 :: a8 :: a9 :: a10 :: a11 :: a12 :: a13 :: a14 :: a15 :: a16 :: a17 :: a18 :: a19 :: a20 :: .ow x :: r) rt = rt true x := rfl
theorem r_bo22 {a0 a1 a2 a3 a4 a5 a6 a7 a8 a9 a10 a11 a12 a13 a14 a15 a16 a17 a18 a19 a20 a21 : Sl} : retV (.bw 22) (a0 :: a1 :: a2 :: a3 :: a4 :: a5 :: a6 :: a7 :: a8 :: a9 :: a10 :: a11 :: a12 :: a13 :: a14 :: a15 :: a16 :: a17 :: a18 :: a19 :: a20 :: a21 :: .ow x :: r) rt = rt true x := rfl
theorem r_bo23 {a0 a1 a2 a3 a4 a5 a6 a7 a8 a9 a10 a11 a12 a13 a14 a15 a16 a17 a18 a19 a20 a21 a22 : Sl} : retV (.bw 23) (a0 :: a1 :: a2 :: a3 :: a4 :: a5 :: a6 :: a7 :: a8 :: a9 :: a10 :: a11 :: a12 :: a13 :: a14 :: a15 :: a16 :: a17 :: a18 :: a19 :: a20 :: a21 :: a22 :: .ow x :: r) rt = rt true x := rfl
theorem r_bf0 : retV (.bw 0) (.fz x :: r) rt = rt false x := rfl
theorem r_bf1 {a0 : Sl} : retV (.bw 1) (a0 :: .fz x :: r) rt = rt false x := rfl
theorem r_bf2 {a0 a1 : Sl} : retV (.bw 2) (a0 :: a1 :: .fz x :: r) rt = rt false x := rfl
theorem r_bf3 {a0 a1 a2 : Sl} : retV (.bw 3) (a0 :: a1 :: a2 :: .fz x :: r) rt = rt false x := rfl
theorem r_bf4 {a0 a1 a2 a3 : Sl} : retV (.bw 4) (a0 :: a1 :: a2 :: a3 :: .fz x :: r) rt = rt false x := rfl
theorem r_bf5 {a0 a1 a2 a3 a4 : Sl} : retV (.bw 5) (a0 :: a1 :: a2 :: a3 :: a4 :: .fz x :: r) rt = rt false x := rfl
theorem r_bf6 {a0 a1 a2 a3 a4 a5 : Sl} : retV (.bw 6) (a0 :: a1 :: a2 :: a3 :: a4 :: a5 :: .fz x :: r) rt = rt false x := rfl
theorem r_bf7 {a0 a1 a2 a3 a4 a5 a6 : Sl} : retV (.bw 7) (a0 :: a1 :: a2 :: a3 :: a4 :: a5 :: a6 :: .fz x :: r) rt = rt false x := rfl
theorem r_bf8 {a0 a1 a2 a3 a4 a5 a6 a7 : Sl} : retV (.bw 8) (a0 :: a1 :: a2 :: a3 :: a4 :: a5 :: a6 :: a7 :: .fz x :: r) rt = rt false x := rfl
theorem r_bf9 {a0 a1 a2 a3 a4 a5 a6 a7 a8 : Sl} : retV (.bw 9) (a0 :: a1 :: a2 :: a3 :: a4 :: a5 :: a6 :: a7 :: a8 :: .fz x :: r) rt = rt false x := rfl
theorem r_bf10 {a0 a1 a2 a3 a4 a5 a6 a7 a8 a9 : Sl} : retV (.bw 10) (a0 :: a1 :: a2 :: a3 :: a4 :: a5 :: a6 :: a7 :: a8 :: a9 :: .fz x :: r) rt = rt false x := rfl
theorem r_bf11 {a0 a1 a2 a3 a4 a5 a6 a7 a8 a9 a10 : Sl} : retV (.bw 11) (a0 :: a1 :: a2 :: a3 :: a4 :: a5 :: a6 :: a7 :: a8 :: a9 :: a10 :: .fz x :: r) rt = rt false x := rfl
theorem r_bf12 {a0 a1 a2 a3 a4 a5 a6 a7 a8 a9 a10 a11 : Sl} : retV (.bw 12) (a0 :: a1 :: a2 :: a3 :: a4 :: a5 :: a6 :: a7 :: a8 :: a9 :: a10 :: a11 :: .fz x :: r) rt = rt false x := rfl
theorem r_bf13 {a0 a1 a2 a3 a4 a5 a6 a7 a8 a9 a10 a11 a12 : Sl} : retV (.bw 13) (a0 :: a1 :: a2 :: a3 :: a4 :: a5 :: a6 :: a7 :: a8 :: a9 :: a10 :: a11 :: a12 :: .fz x :: r) rt = rt false x := rfl
theorem r_bf14 {a0 a1 a2 a3 a4 a5 a6 a7 a8 a9 a10 a11 a12 a13 : Sl} : retV (.bw 14) (a0 :: a1 :: a2 :: a3 :: a4 :: a5 :: a6 :: a7 :: a8 :: a9 :: a10 :: a11 :: a12 :: a13 :: .fz x :: r) rt = rt false x := rfl
theorem r_bf15 {a0 a1 a2 a3 a4 a5 a6 a7 a8 a9 a10 a11 a12 a13 a14 : Sl} : retV (.bw 15) (a0 :: a1 :: a2 :: a3 :: a4 :: a5 :: a6 :: a7 :: a8 :: a9 :: a10 :: a11 :: a12 :: a13 :: a14 :: .fz x :: r) rt = rt false x := rfl
theorem r_bf16 {a0 a1 a2 a3 a4 a5 a6 a7 a8 a9 a10 a11 a12 a13 a14 a15 : Sl} : retV (.bw 16) (a0 :: a1 :: a2 :: a3 :: a4 :: a5 :: a6 :: a7 :: a8 :: a9 :: a10 :: a11 :: a12 :: a13 :: a14 :: a15 :: .fz x :: r) rt = rt false x := rfl
theorem r_bf17 {a0 a1 a2 a3 a4 a5 a6 a7 a8 a9 a10 a11 a12 a13 a14 a15 a16 : Sl} : retV (.bw 17) (a0 :: a1 :: a2 :: a3 :: a4 :: a5 :: a6 :: a7 :: a8 :: a9 :: a10 :: a11 :: a12 :: a13 :: a14 :: a15 :: a16 :: .fz x :: r) rt = rt false x := rfl
theorem r_bf18 {a0 a1 a2 a3 a4 a5 a6 a7 a8 a9 a10 a11 a12 a13 a14 a15 a16 a17 : Sl} : retV (.bw 18) (a0 :: a1 :: a2 :: a3 :: a4 :: a5 :: a6 :: a7 :: a8 :: a9 :: a10 :: a11 :: a12 :: a13 :: a14 :: a15 :: a16 :: a17 :: .fz x :: r) rt = rt false x := rfl
theorem r_bf19 {a0 a1 a2 a3 a4 a5 a6 a7 a8 a9 a10 a11 a12 a13 a14 a15 a16 a17 a18 : Sl} : retV (.bw 19) (a0 :: a1 :: a2 :: a3 :: a4 :: a5 :: a6 :: a7 :: a8 :: a9 :: a10 :: a11 :: a12 :: a13 :: a14 :: a15 :: a16 :: a17 :: a18 :: .fz x :: r) rt = rt false x := rfl
theorem r_bf20 {a0 a1 a2 a3 a4 a5 a6 a7 a8 a9 a10 a11 a12 a13 a14 a15 a16 a17 a18 a19 : Sl} : retV (.bw 20) (a0 :: a1 :: a2 :: a3 :: a4 :: a5 :: a6 :: a7 :: a8 :: a9 :: a10 :: a11 :: a12 :: a13 :: a14 :: a15 :: a16 :: a17 :: a18 :: a19 :: .fz x :: r) rt = rt false x := rfl
theorem r_bf21 {a0 a1 a2 a3 a4 a5 a6 a7 a8 a9 a10 a11 a12 a13 a14 a15 a16 a17 a18 a19 a20 : Sl} : retV (.bw 21) (a0 :: a1 :: a2 :: a3 :: a4 :: a5 :: a6 :: a7 :: a8 :: a9 :: a10 :: a11 :: a12 :: a13 :: a14 :: a15 :: a16 :: a17 :: a18 :: a19 :: a20 :: .fz x :: r) rt = rt false x := rfl
theorem r_bf22 {a0 a1 a2 a3 a4 a5 a6 a7 a8 a9 a10 a11 a12 a13 a14 a15 a16 a17 a18 a19 a20 a21 : Sl} : retV (.bw 22) (a0 :: a1 :: a2 :: a3 :: a4 :: a5 :: a6 :: a7 :: a8 :: a9 :: a10 :: a11 :: a12 :: a13 :: a14 :: a15 :: a16 :: a17 :: a18 :: a19 :: a20 :: a21 :: .fz x :: r) rt = rt false x := rfl
theorem r_bf23 {a0 a1 a2 a3 a4 a5 a6 a7 a8 a9 a10 a11 a12 a13 a14 a15 a16 a17 a18 a19 a20 a21 a22 : Sl} : retV (.bw 23) (a0 :: a1 :: a2 :: a3 :: a4 :: a5 :: a6 :: a7 :: a8 :: a9 :: a10 :: a11 :: a12 :: a13 :: a14 :: a15 :: a16 :: a17 :: a18 :: a19 :: a20 :: a21 :: a22 :: .fz x :: r) rt = rt false x := rfl
theorem g_fz : Vl.give (.fz x) env ke = ke x env := rfl
theorem g_fr : Vl.give (.fr x) env ke = ke x env := rfl
theorem g_bo0 : Vl.give (.bw 0) (.ow x :: r) ke = ke x (.fz x :: r) := rfl
theorem g_bo1 {a0 : Sl} : Vl.give (.bw 1) (a0 :: .ow x :: r) ke = ke x (a0 :: .fz x :: r) := rfl
theorem g_bo2 {a0 a1 : Sl} : Vl.give (.bw 2) (a0 :: a1 :: .ow x :: r) ke = ke x (a0 :: a1 :: .fz x :: r) := rfl
theorem g_bo3 {a0 a1 a2 : Sl} : Vl.give (.bw 3) (a0 :: a1 :: a2 :: .ow x :: r) ke = ke x (a0 :: a1 :: a2 :: .fz x :: r) := rfl
theorem g_bo4 {a0 a1 a2 a3 : Sl} : Vl.give (.bw 4) (a0 :: a1 :: a2 :: a3 :: .ow x :: r) ke = ke x (a0 :: a1 :: a2 :: a3 :: .fz x :: r) := rfl
theorem g_bo5 {a0 a1 a2 a3 a4 : Sl} : Vl.give (.bw 5) (a0 :: a1 :: a2 :: a3 :: a4 :: .ow x :: r) ke = ke x (a0 :: a1 :: a2 :: a3 :: a4 :: .fz x :: r) := rfl
theorem g_bo6 {a0 a1 a2 a3 a4 a5 : Sl} : Vl.give (.bw 6) (a0 :: a1 :: a2 :: a3 :: a4 :: a5 :: .ow x :: r) ke = ke x (a0 :: a1 :: a2 :: a3 :: a4 :: a5 :: .fz x :: r) := rfl
theorem g_bo7 {a0 a1 a2 a3 a4 a5 a6 : Sl} : Vl.give (.bw 7) (a0 :: a1 :: a2 :: a3 :: a4 :: a5 :: a6 :: .ow x :: r) ke = ke x (a0 :: a1 :: a2 :: a3 :: a4 :: a5 :: a6 :: .fz x :: r) := rfl
theorem g_bo8 {a0 a1 a2 a3 a4 a5 a6 a7 : Sl} : Vl.give (.bw 8) (a0 :: a1 :: a2 :: a3 :: a4 :: a5 :: a6 :: a7 :: .ow x :: r) ke = ke x (a0 :: a1 :: a2 :: a3 :: a4 :: a5 :: a6 :: a7 :: .fz x :: r) := rfl
theorem g_bo9 {a0 a1 a2 a3 a4 a5 a6 a7 a8 : Sl} : Vl.give (.bw 9) (a0 :: a1 :: a2 :: a3 :: a4 :: a5 :: a6 :: a7 :: a8 :: .ow x :: r) ke = ke x (a0 :: a1 :: a2 :: a3 :: a4 :: a5 :: a6 :: a7 :: a8 :: .fz x :: r) := rfl
theorem g_bo10 {a0 a1 a2 a3 a4 a5 a6 a7 a8 a9 : Sl} : Vl.give (.bw 10) (a0 :: a1 :: a2 :: a3 :: a4 :: a5 :: a6 :: a7 :: a8 :: a9 :: .ow x :: r) ke = ke x (a0 :: a1 :: a2 :: a3 :: a4 :: a5 :: a6 :: a7 :: a8 :: a9 :: .fz x :: r) := rfl
theorem g_bo11 {a0 a1 a2 a3 a4 a5 a6 a7 a8 a9 a10 : Sl} : Vl.give (.bw 11) (a0 :: a1 :: a2 :: a3 :: a4 :: a5 :: a6 :: a7 :: a8 :: a9 :: a10 :: .ow x :: r) ke = ke x (a0 :: a1 :: a2 :: a3 :: a4 :: a5 :: a6 :: a7 :: a8 :: a9 :: a10 :: .fz x :: r) := rfl
theorem g_bo12 {a0 a1 a2 a3 a4 a5 a6 a7 a8 a9 a10 a11 : Sl} : Vl.give (.bw 12) (a0 :: a1 :: a2 :: a3 :: a4 :: a5 :: a6 :: a7 :: a8 :: a9 :: a10 :: a11 :: .ow x :: r) ke = ke x (a0 :: a1 :: a2 :: a3 :: a4 :: a5 :: a6 :: a7 :: a8 :: a9 :: a10 :: a11 :: .fz x :: r) := rfl
theorem g_bo13 {a0 a1 a2 a3 a4 a5 a6 a7 a8 a9 a10 a11 a12 : Sl} : Vl.give (.bw 13) (a0 :: a1 :: a2 :: a3 :: a4 :: a5 :: a6 :: a7 :: a8 :: a9 :: a10 :: a11 :: a12 :: .ow x :: r) ke = ke x (a0 :: a1 :: a2 :: a3 :: a4 :: a5 :: a6 :: a7 :: a8 :: a9 :: a10 :: a11 :: a12 :: .fz x :: r) := rfl
theorem g_bo14 {a0 a1 a2 a3 a4 a5 a6 a7 a8 a9 a10 a11 a12 a13 : Sl} : Vl.give (.bw 14) (a0 :: a1 :: a2 :: a3 :: a4 :: a5 :: a6 :: a7 :: a8 :: a9 :: a10 :: a11 :: a12 :: a13 :: .ow x :: r) ke = ke x (a0 :: a1 :: a2 :: a3 :: a4 :: a5 :: a6 :: a7 :: a8 :: a9 :: a10 :: a11 :: a12 :: a13 :: .fz x :: r) := rfl
theorem g_bo15 {a0 a1 a2 a3 a4 a5 a6 a7 a8 a9 a10 a11 a12 a13 a14 : Sl} : Vl.give (.bw 15) (a0 :: a1 :: a2 :: a3 :: a4 :: a5 :: a6 :: a7 :: a8 :: a9 :: a10 :: a11 :: a12 :: a13 :: a14 :: .ow x :: r) ke = ke x (a0 :: a1 :: a2 :: a3 :: a4 :: a5 :: a6 :: a7 :: a8 :: a9 :: a10 :: a11 :: a12 :: a13 :: a14 :: .fz x :: r) := rfl
theorem g_bo16 {a0 a1 a2 a3 a4 a5 a6 a7 a8 a9 a10 a11 a12 a13 a14 a15 : Sl} : Vl.give (.bw 16) (a0 :: a1 :: a2 :: a3 :: a4 :: a5 :: a6 :: a7 :: a8 :: a9 :: a10 :: a11 :: a12 :: a13 :: a14 :: a15 :: .ow x :: r) ke = ke x (a0 :: a1 :: a2 :: a3 :: a4 :: a5 :: a6 :: a7 :: a8 :: a9 :: a10 :: a11 :: a12 :: a13 :: a14 :: a15 :: .fz x :: r) := rfl
theorem g_bo17 {a0 a1 a2 a3 a4 a5 a6 a7 a8 a9 a10 a11 a12 a13 a14 a15 a16 : Sl} : Vl.give (.bw 17) (a0 :: a1 :: a2 :: a3 :: a4 :: a5 :: a6 :: a7 :: a8 :: a9 :: a10 :: a11 :: a12 :: a13 :: a14 :: a15 :: a16 :: .ow x :: r) ke = ke x (a0 :: a1 :: a2 :: a3 :: a4 :: a5 :: a6 :: a7 :: a8 :: a9 :: a10 :: a11 :: a12 :: a13 :: a14 :: a15 :: a16 :: .fz x :: r) := rfl
theorem g_bo18 {a0 a1 a2 a3 a4 a5 a6 a7 a8 a9 a10 a11 a12 a13 a14 a15 a16 a17 : Sl} : Vl.give (.bw 18) (a0 :: a1 :: a2 :: a3 :: a4 :: a5 :: a6 :: a7 :: a8 :: a9 :: a10 :: a11 :: a12 :: a13 :: a14 :: a15 :: a16 :: a17 :: .ow x :: r) ke = ke x (a0 :: a1 :: a2 :: a3 :: a4 :: a5 :: a6 :: a7 :: a8 :: a9 :: a10 :: a11 :: a12 :: a13 :: a14 :: a15 :: a16 :: a17 :: .fz x :: r) := rfl
theorem g_bo19 {a0 a1 a2 a3 a4 a5 a6 a7 a8 a9 a10 a11 a12 a13 a14 a15 a16 a17 a18 : Sl} : Vl.give (.bw 19) (a0 :: a1 :: a2 :: a3 :: a4 :: a5 :: a6 :: a7 :: a8 :: a9 :: a10 :: a11 :: a12 :: a13 :: a14 :: a15 :: a16 :: a17 :: a18 :: .ow x :: r) ke = ke x (a0 :: a1 :: a2 :: a3 :: a4 :: a5 :: a6 :: a7 :: a8 :: a9 :: a10 :: a11 :: a12 :: a13 :: a14 :: a15 :: a16 :: a17 :: a18 :: .fz x :: r) := rfl
theorem g_bo20 {a0 a1 a2 a3 a4 a5 a6 a7 a8 a9 a10 a11 a12 a13 a14 a15 a16 a17 a18 a19 : Sl} : Vl.give (.bw 20) (a0 :: a1 :: a2 :: a3 :: a4 :: a5 :: a6 :: a7 :: a8 :: a9 :: a10 :: a11 :: a12 :: a13 :: a14 :: a15 :: a16 :: a17 :: a18 :: a19 :: .ow x :: r) ke = ke x (a0 :: a1 :: a2 :: a3 :: a4 :: a5 :: a6 :: a7 :: a8 :: a9 :: a10 :: a11 :: a12 :: a13 :: a14 :: a15 :: a16 :: a17 :: a18 :: a19 :: .fz x :: r) := rfl
theorem g_bo21 {a0 a1 a2 a3 a4 a5 a6 a7 a8 a9 a10 a11 a12 a13 a14 a15 a16 a17 a18 a19 a20 : Sl} : Vl.give (.bw 21) (a0 :: a1 :: a2 :: a3 :: a4 :: a5 :: a6 :: a7 :: a8 :: a9 :: a10 :: a11 :: a12 :: a13 :: a14 :: a15 :: a16 :: a17 :: a18 :: a19 :: a20 :: .ow x :: r) ke = ke x (a0 :: a1 :: a2 :: a3 :: a4 :: a5 :: a6 :: a7 :: a8 :: a9 :: a10 :: a11 :: a12 :: a13 :: a14 :: a15 :: a16 :: a17 :: a18 :: a19 :: a20 :: .fz x :: r) := rfl
theorem g_bo22 {a0 a1 a2 a3 a4 a5 a6 a7 a8 a9 a10 a11 a12 a13 a14 a15 a16 a17 a18 a19 a20 a21 : Sl} : Vl.give (.bw 22) (a0 :: a1 :: a2 :: a3 :: a4 :: a5 :: a6 :: a7 :: a8 :: a9 :: a10 :: a11 :: a12 :: a13 :: a14 :: a15 :: a16 :: a17 :: a18 :: a19 :: a20 :: a21 :: .ow x :: r) ke = ke x (a0 :: a1 :: a2 :: a3 :: a4 :: a5 :: a6 :: a7 :: a8 :: a9 :: a10 :: a11 :: a12 :: a13 :: a14 :: a15 :: a16 :: a17 :: a18 :: a19 :: a20 :: a21 :: .fz x :: r) := rfl
theorem g_bo23 {a0 a1 a2 a3 a4 a5 a6 a7 a8 a9 a10 a11 a12 a13 a14 a15 a16 a17 a18 a19 a20 a21 a22 : Sl} : Vl.give (.bw 23) (a0 :: a1 :: a2 :: a3 :: a4 :: a5 :: a6 :: a7 :: a8 :: a9 :: a10 :: a11 :: a12 :: a13 :: a14 :: a15 :: a16 :: a17 :: a18 :: a19 :: a20 :: a21 :: a22 :: .ow x :: r) ke = ke x (a0 :: a1 :: a2 :: a3 :: a4 :: a5 :: a6 :: a7 :: a8 :: a9 :: a10 :: a11 :: a12 :: a13 :: a14 :: a15 :: a16 :: a17 :: a18 :: a19 :: a20 :: a21 :: a22 :: .fz x :: r) := rfl
theorem g_bf0 : Vl.give (.bw 0) (.fz x :: r) ke = ke x (.fz x :: r) := rfl
theorem g_bf1 {a0 : Sl} : Vl.give (.bw 1) (a0 :: .fz x :: r) ke = ke x (a0 :: .fz x :: r) := rfl
theorem g_bf2 {a0 a1 : Sl} : Vl.give (.bw 2) (a0 :: a1 :: .fz x :: r) ke = ke x (a0 :: a1 :: .fz x :: r) := rfl
theorem g_bf3 {a0 a1 a2 : Sl} : Vl.give (.bw 3) (a0 :: a1 :: a2 :: .fz x :: r) ke = ke x (a0 :: a1 :: a2 :: .fz x :: r) := rfl
theorem g_bf4 {a0 a1 a2 a3 : Sl} : Vl.give (.bw 4) (a0 :: a1 :: a2 :: a3 :: .fz x :: r) ke = ke x (a0 :: a1 :: a2 :: a3 :: .fz x :: r) := rfl
theorem g_bf5 {a0 a1 a2 a3 a4 : Sl} : Vl.give (.bw 5) (a0 :: a1 :: a2 :: a3 :: a4 :: .fz x :: r) ke = ke x (a0 :: a1 :: a2 :: a3 :: a4 :: .fz x :: r) := rfl
theorem g_bf6 {a0 a1 a2 a3 a4 a5 : Sl} : Vl.give (.bw 6) (a0 :: a1 :: a2 :: a3 :: a4 :: a5 :: .fz x :: r) ke = ke x (a0 :: a1 :: a2 :: a3 :: a4 :: a5 :: .fz x :: r) := rfl
theorem g_bf7 {a0 a1 a2 a3 a4 a5 a6 : Sl} : Vl.give (.bw 7) (a0 :: a1 :: a2 :: a3 :: a4 :: a5 :: a6 :: .fz x :: r) ke = ke x (a0 :: a1 :: a2 :: a3 :: a4 :: a5 :: a6 :: .fz x :: r) := rfl
theorem g_bf8 {a0 a1 a2 a3 a4 a5 a6 a7 : Sl} : Vl.give (.bw 8) (a0 :: a1 :: a2 :: a3 :: a4 :: a5 :: a6 :: a7 :: .fz x :: r) ke = ke x (a0 :: a1 :: a2 :: a3 :: a4 :: a5 :: a6 :: a7 :: .fz x :: r) := rfl
theorem g_bf9 {a0 a1 a2 a3 a4 a5 a6 a7 a8 : Sl} : Vl.give (.bw 9) (a0 :: a1 :: a2 :: a3 :: a4 :: a5 :: a6 :: a7 :: a8 :: .fz x :: r) ke = ke x (a0 :: a1 :: a2 :: a3 :: a4 :: a5 :: a6 :: a7 :: a8 :: .fz x :: r) := rfl
theorem g_bf10 {a0 a1 a2 a3 a4 a5 a6 a7 a8 a9 : Sl} : Vl.give (.bw 10) (a0 :: a1 :: a2 :: a3 :: a4 :: a5 :: a6 :: a7 :: a8 :: a9 :: .fz x :: r) ke = ke x (a0 :: a1 :: a2 :: a3 :: a4 :: a5 :: a6 :: a7 :: a8 :: a9 :: .fz x :: r) := rfl
theorem g_bf11 {a0 a1 a2 a3 a4 a5 a6 a7 a8 a9 a10 : Sl} : Vl.give (.bw 11) (a0 :: a1 :: a2 :: a3 :: a4 :: a5 :: a6 :: a7 :: a8 :: a9 :: a10 :: .fz x :: r) ke = ke x (a0 :: a1 :: a2 :: a3 :: a4 :: a5 :: a6 :: a7 :: a8 :: a9 :: a10 :: .fz x :: r) := rfl
theorem g_bf12 {a0 a1 a2 a3 a4 a5 a6 a7 a8 a9 a10 a11 : Sl} : Vl.give (.bw 12) (a0 :: a1 :: a2 :: a3 :: a4 :: a5 :: a6 :: a7 :: a8 :: a9 :: a10 :: a11 :: .fz x :: r) ke = ke x (a0 :: a1 :: a2 :: a3 :: a4 :: a5 :: a6 :: a7 :: a8 :: a9 :: a10 :: a11 :: .fz x :: r) := rfl
theorem g_bf13 {a0 a1 a2 a3 a4 a5 a6 a7 a8 a9 a10 a11 a12 : Sl} : Vl.give (.bw 13) (a0 :: a1 :: a2 :: a3 :: a4 :: a5 :: a6 :: a7 :: a8 :: a9 :: a10 :: a11 :: a12 :: .fz x :: r) ke = ke x (a0 :: a1 :: a2 :: a3 :: a4 :: a5 :: a6 :: a7 :: a8 :: a9 :: a10 :: a11 :: a12 :: .fz x :: r) := rfl
theorem g_bf14 {a0 a1 a2 a3 a4 a5 a6 a7 a8 a9 a10 a11 a12 a13 : Sl} : Vl.give (.bw 14) (a0 :: a1 :: a2 :: a3 :: a4 :: a5 :: a6 :: a7 :: a8 :: a9 :: a10 :: a11 :: a12 :: a13 :: .fz x :: r) ke = ke x (a0 :: a1 :: a2 :: a3 :: a4 :: a5 :: a6 :: a7 :: a8 :: a9 :: a10 :: a11 :: a12 :: a13 :: .fz x :: r) := rfl
theorem g_bf15 {a0 a1 a2 a3 a4 a5 a6 a7 a8 a9 a10 a11 a12 a13 a14 : Sl} : Vl.give (.bw 15) (a0 :: a1 :: a2 :: a3 :: a4 :: a5 :: a6 :: a7 :: a8 :: a9 :: a10 :: a11 :: a12 :: a13 :: a14 :: .fz x :: r) ke = ke x (a0 :: a1 :: a2 :: a3 :: a4 :: a5 :: a6 :: a7 :: a8 :: a9 :: a10 :: a11 :: a12 :: a13 :: a14 :: .fz x :: r) := rfl
theorem g_bf16 {a0 a1 a2 a3 a4 a5 a6 a7 a8 a9 a10 a11 a12 a13 a14 a15 : Sl} : Vl.give (.bw 16) (a0 :: a1 :: a2 :: a3 :: a4 :: a5 :: a6 :: a7 :: a8 :: a9 :: a10 :: a11 :: a12 :: a13 :: a14 :: a15 :: .fz x :: r) ke = ke x (a0 :: a1 :: a2 :: a3 :: a4 :: a5 :: a6 :: a7 :: a8 :: a9 :: a10 :: a11 :: a12 :: a13 :: a14 :: a15 :: .fz x :: r) := rfl
theorem g_bf17 {a0 a1 a2 a3 a4 a5 a6 a7 a8 a9 a10 a11 a12 a13 a14 a15 a16 : Sl} : Vl.give (.bw 17) (a0 :: a1 :: a2 :: a3 :: a4 :: a5 :: a6 :: a7 :: a8 :: a9 :: a10 :: a11 :: a12 :: a13 :: a14 :: a15 :: a16 :: .fz x :: r) ke = ke x (a0 :: a1 :: a2 :: a3 :: a4 :: a5 :: a6 :: a7 :: a8 :: a9 :: a10 :: a11 :: a12 :: a13 :: a14 :: a15 :: a16 :: .fz x :: r) := rfl
theorem g_bf18 {a0 a1 a2 a3 a4 a5 a6 a7 a8 a9 a10 a11 a12 a13 a14 a15 a16 a17 : Sl} : Vl.give (.bw 18) (a0 :: a1 :: a2 :: a3 :: a4 :: a5 :: a6 :: a7 :: a8 :: a9 :: a10 :: a11 :: a12 :: a13 :: a14 :: a15 :: a16 :: a17 :: .fz x :: r) ke = ke x (a0 :: a1 :: a2 :: a3 :: a4 :: a5 :: a6 :: a7 :: a8 :: a9 :: a10 :: a11 :: a12 :: a13 :: a14 :: a15 :: a16 :: a17 :: .fz x :: r) := rfl
theorem g_bf19 {a0 a1 a2 a3 a4 a5 a6 a7 a8 a9 a10 a11 a12 a13 a14 a15 a16 a17 a18 : Sl} : Vl.give (.bw 19) (a0 :: a1 :: a2 :: a3 :: a4 :: a5 :: a6 :: a7 :: a8 :: a9 :: a10 :: a11 :: a12 :: a13 :: a14 :: a15 :: a16 :: a17 :: a18 :: .fz x :: r) ke = ke x (a0 :: a1 :: a2 :: a3 :: a4 :: a5 :: a6 :: a7 :: a8 :: a9 :: a10 :: a11 :: a12 :: a13 :: a14 :: a15 :: a16 :: a17 :: a18 :: .fz x :: r) := rfl
theorem g_bf20 {a0 a1 a2 a3 a4 a5 a6 a7 a8 a9 a10 a11 a12 a13 a14 a15 a16 a17 a18 a19 : Sl} : Vl.give (.bw 20) (a0 :: a1 :: a2 :: a3 :: a4 :: a5 :: a6 :: a7 :: a8 :: a9 :: a10 :: a11 :: a12 :: a13 :: a14 :: a15 :: a16 :: a17 :: a18 :: a19 :: .fz x :: r) ke = ke x (a0 :: a1 :: a2 :: a3 :: a4 :: a5 :: a6 :: a7 :: a8 :: a9 :: a10 :: a11 :: a12 :: a13 :: a14 :: a15 :: a16 :: a17 :: a18 :: a19 :: .fz x :: r) := rfl
theorem g_bf21 {a0 a1 a2 a3 a4 a5 a6 a7 a8 a9 a10 a11 a12 a13 a14 a15 a16 a17 a18 a19 a20 : Sl} : Vl.give (.bw 21) (a0 :: a1 :: a2 :: a3 :: a4 :: a5 :: a6 :: a7 :: a8 :: a9 :: a10 :: a11 :: a12 :: a13 :: a14 :: a15 :: a16 :: a17 :: a18 :: a19 :: a20 :: .fz x :: r) ke = ke x (a0 :: a1 :: a2 :: a3 :: a4 :: a5 :: a6 :: a7 :: a8 :: a9 :: a10 :: a11 :: a12 :: a13 :: a14 :: a15 :: a16 :: a17 :: a18 :: a19 :: a20 :: .fz x :: r) := rfl
theorem g_bf22 {a0 a1 a2 a3 a4 a5 a6 a7 a8 a9 a10 a11 a12 a13 a14 a15 a16 a17 a18 a19 a20 a21 : Sl} : Vl.give (.bw 22) (a0 :: a1 :: a2 :: a3 :: a4 :: a5 :: a6 :: a7 :: a8 :: a9 :: a10 :: a11 :: a12 :: a13 :: a14 :: a15 :: a16 :: a17 :: a18 :: a19 :: a20 :: a21 :: .fz x :: r) ke = ke x (a0 :: a1 :: a2 :: a3 :: a4 :: a5 :: a6 :: a7 :: a8 :: a9 :: a10 :: a11 :: a12 :: a13 :: a14 :: a15 :: a16 :: a17 :: a18 :: a19 :: a20 :: a21 :: .fz x :: r) := rfl
theorem g_bf23 {a0 a1 a2 a3 a4 a5 a6 a7 a8 a9 a10 a11 a12 a13 a14 a15 a16 a17 a18 a19 a20 a21 a22 : Sl} : Vl.give (.bw 23) (a0 :: a1 :: a2 :: a3 :: a4 :: a5 :: a6 :: a7 :: a8 :: a9 :: a10 :: a11 :: a12 :: a13 :: a14 :: a15 :: a16 :: a17 :: a18 :: a19 :: a20 :: a21 :: a22 :: .fz x :: r) ke = ke x (a0 :: a1 :: a2 :: a3 :: a4 :: a5 :: a6 :: a7 :: a8 :: a9 :: a10 :: a11 :: a12 :: a13 :: a14 :: a15 :: a16 :: a17 :: a18 :: a19 :: a20 :: a21 :: a22 :: .fz x :: r) := rfl
theorem o_fz : with1 (.fz x) env kd = kd x := propext with1_fz
theorem o_fr : with1 (.fr x) env kd = kd x := propext with1_fr
theorem o_bo0 : with1 (.bw 0) (.ow x :: r) kd = kd x := propext ⟨fun ⟨c, e, h⟩ => by cases e; exact h, fun h => ⟨x, rfl, h⟩⟩
theorem o_bo1 {a0 : Sl} : with1 (.bw 1) (a0 :: .ow x :: r) kd = kd x := propext ⟨fun ⟨c, e, h⟩ => by cases e; exact h, fun h => ⟨x, rfl, h⟩⟩
theorem o_bo2 {a0 a1 : Sl} : with1 (.bw 2) (a0 :: a1 :: .ow x :: r) kd = kd x := propext ⟨fun ⟨c, e, h⟩ => by cases e; exact h, fun h => ⟨x, rfl, h⟩⟩
theorem o_bo3 {a0 a1 a2 : Sl} : with1 (.bw 3) (a0 :: a1 :: a2 :: .ow x :: r) kd = kd x := propext ⟨fun ⟨c, e, h⟩ => by cases e; exact h, fun h => ⟨x, rfl, h⟩⟩
theorem o_bo4 {a0 a1 a2 a3 : Sl} : with1 (.bw 4) (a0 :: a1 :: a2 :: a3 :: .ow x :: r) kd = kd x := propext ⟨fun ⟨c, e, h⟩ => by cases e; exact h, fun h => ⟨x, rfl, h⟩⟩
theorem o_bo5 {a0 a1 a2 a3 a4 : Sl} : with1 (.bw 5) (a0 :: a1 :: a2 :: a3 :: a4 :: .ow x :: r) kd = kd x := propext ⟨fun ⟨c, e, h⟩ => by cases e; exact h, fun h => ⟨x, rfl, h⟩⟩
theorem o_bo6 {a0 a1 a2 a3 a4 a5 : Sl} : with1 (.bw 6) (a0 :: a1 :: a2 :: a3 :: a4 :: a5 :: .ow x :: r) kd = kd x := propext ⟨fun ⟨c, e, h⟩ => by cases e; exact h, fun h => ⟨x, rfl, h⟩⟩
theorem o_bo7 {a0 a1 a2 a3 a4 a5 a6 : Sl} : with1 (.bw 7) (a0 :: a1 :: a2 :: a3 :: a4 :: a5 :: a6 :: .ow x :: r) kd = kd x := propext ⟨fun ⟨c, e, h⟩ => by cases e; exact h, fun h => ⟨x, rfl, h⟩⟩
theorem o_bo8 {a0 a1 a2 a3 a4 a5 a6 a7 : Sl} : with1 (.bw 8) (a0 :: a1 :: a2 :: a3 :: a4 :: a5 :: a6 :: a7 :: .ow x :: r) kd = kd x := propext ⟨fun ⟨c, e, h⟩ => by cases e; exact h, fun h => ⟨x, rfl, h⟩⟩
theorem o_bo9 {a0 a1 a2 a3 a4 a5 a6 a7 a8 : Sl} : with1 (.bw 9) (a0 :: a1 :: a2 :: a3 :: a4 :: a5 :: a6 :: a7 :: a8 :: .ow x :: r) kd = kd x := propext ⟨fun ⟨c, e, h⟩ => by cases e; exact h, fun h => ⟨x, rfl, h⟩⟩
theorem o_bo10 {a0 a1 a2 a3 a4 a5 a6 a7 a8 a9 : Sl} : with1 (.bw 10) (a0 :: a1 :: a2 :: a3 :: a4 :: a5 :: a6 :: a7 :: a8 :: a9 :: .ow x :: r) kd = kd x := propext ⟨fun ⟨c, e, h⟩ => by cases e; exact h, fun h => ⟨x, rfl, h⟩⟩
theorem o_bo11 {a0 a1 a2 a3 a4 a5 a6 a7 a8 a9 a10 : Sl} : with1 (.bw 11) (a0 :: a1 :: a2 :: a3 :: a4 :: a5 :: a6 :: a7 :: a8 :: a9 :: a10 :: .ow x :: r) kd = kd x := propext ⟨fun ⟨c, e, h⟩ => by cases e; exact h, fun h => ⟨x, rfl, h⟩⟩
theorem o_bo12 {a0 a1 a2 a3 a4 a5 a6 a7 a8 a9 a10 a11 : Sl} : with1 (.bw 12) (a0 :: a1 :: a2 :: a3 :: a4 :: a5 :: a6 :: a7 :: a8 :: a9 :: a10 :: a11 :: .ow x :: r) kd = kd x := propext ⟨fun ⟨c, e, h⟩ => by cases e; exact h, fun h => ⟨x, rfl, h⟩⟩
theorem o_bo13 {a0 a1 a2 a3 a4 a5 a6 a7 a8 a9 a10 a11 a12 : Sl} : with1 (.bw 13) (a0 :: a1 :: a2 :: a3 :: a4 :: a5 :: a6 :: a7 :: a8 :: a9 :: a10 :: a11 :: a12 :: .ow x :: r) kd = kd x := propext ⟨fun ⟨c, e, h⟩ => by cases e; exact h, fun h => ⟨x, rfl, h⟩⟩
theorem o_bo14 {a0 a1 a2 a3 a4 a5 a6 a7 a8 a9 a10 a11 a12 a13 : Sl} : with1 (.bw 14) (a0 :: a1 :: a2 :: a3 :: a4 :: a5 :: a6 :: a7 :: a8 :: a9 :: a10 :: a11 :: a12 :: a13 :: .ow x :: r) kd = kd x := propext ⟨fun ⟨c, e, h⟩ => by cases e; exact h, fun h => ⟨x, rfl, h⟩⟩
theorem o_bo15 {a0 a1 a2 a3 a4 a5 a6 a7 a8 a9 a10 a11 a12 a13 a14 : Sl} : with1 (.bw 15) (a0 :: a1 :: a2 :: a3 :: a4 :: a5 :: a6 :: a7 :: a8 :: a9 :: a10 :: a11 :: a12 :: a13 :: a14 :: .ow x :: r) kd = kd x := propext ⟨fun ⟨c, e, h⟩ => by cases e; exact h, fun h => ⟨x, rfl, h⟩⟩
theorem o_bo16 {a0 a1 a2 a3 a4 a5 a6 a7 a8 a9 a10 a11 a12 a13 a14 a15 : Sl} : with1 (.bw 16) (a0 :: a1 :: a2 :: a3 :: a4 :: a5 :: a6 :: a7 :: a8 :: a9 :: a10 :: a11 :: a12 :: a13 :: a14 :: a15 :: .ow x :: r) kd = kd x := propext ⟨fun ⟨c, e, h⟩ => by cases e; exact h, fun h => ⟨x, rfl, h⟩⟩
theorem o_bo17 {a0 a1 a2 a3 a4 a5 a6 a7 a8 a9 a10 a11 a12 a13 a14 a15 a16 : Sl} : with1 (.bw 17) (a0 :: a1 :: a2 :: a3 :: a4 :: a5 :: a6 :: a7 :: a8 :: a9 :: a10 :: a11 :: a12 :: a13 :: a14 :: a15 :: a16 :: .ow x :: r) kd = kd x := propext ⟨fun ⟨c, e, h⟩ => by cases e; exact h, fun h => ⟨x, rfl, h⟩⟩
theorem o_bo18 {a0 a1 a2 a3 a4 a5 a6 a7 a8 a9 a10 a11 a12 a13 a14 a15 a16 a17 : Sl} : with1 (.bw 18) (a0 :: a1 :: a2 :: a3 :: a4 :: a5 :: a6 :: a7 :: a8 :: a9 :: a10 :: a11 :: a12 :: a13 :: a14 :: a15 :: a16 :: a17 :: .ow x :: r) kd = kd x := propext ⟨fun ⟨c, e, h⟩ => by cases e; exact h, fun h => ⟨x, rfl, h⟩⟩
theorem o_bo19 {a0 a1 a2 a3 a4 a5 a6 a7 a8 a9 a10 a11 a12 a13 a14 a15 a16 a17 a18 : Sl} : with1 (.bw 19) (a0 :: a1 :: a2 :: a3 :: a4 :: a5 :: a6 :: a7 :: a8 :: a9 :: a10 :: a11 :: a12 :: a13 :: a14 :: a15 :: a16 :: a17 :: a18 :: .ow x :: r) kd = kd x := propext ⟨fun ⟨c, e, h⟩ => by cases e; exact h, fun h => ⟨x, rfl, h⟩⟩
theorem o_bo20 {a0 a1 a2 a3 a4 a5 a6 a7 a8 a9 a10 a11 a12 a13 a14 a15 a16 a17 a18 a19 : Sl} : with1 (.bw 20) (a0 :: a1 :: a2 :: a3 :: a4 :: a5 :: a6 :: a7 :: a8 :: a9 :: a10 :: a11 :: a12 :: a13 :: a14 :: a15 :: a16 :: a17 :: a18 :: a19 :: .ow x :: r) kd = kd x := propext ⟨fun ⟨c, e, h⟩ => by cases e; exact h, fun h => ⟨x, rfl, h⟩⟩
theorem o_bo21 {a0 a1 a2 a3 a4 a5 a6 a7 a8 a9 a10 a11 a12 a13 a14 a15 a16 a17 a18 a19 a20 : Sl} : with1 (.bw 21) (a0 :: a1 :: a2 :: a3 :: a4 :: a5 :: a6 :: a7 :: a8 :: a9 :: a10 :: a11 :: a12 :: a13 :: a14 :: a15 :: a16 :: a17 :: a18 :: a19 :: a20 :: .ow x :: r) kd = kd x := propext ⟨fun ⟨c, e, h⟩ => by cases e; exact h, fun h => ⟨x, rfl, h⟩⟩
theorem o_bo22 {a0 a1 a2 a3 a4 a5 a6 a7 a8 a9 a10 a11 a12 a13 a14 a15 a16 a17 a18 a19 a20 a21 : Sl} : with1 (.bw 22) (a0 :: a1 :: a2 :: a3 :: a4 :: a5 :: a6 :: a7 :: a8 :: a9 :: a10 :: a11 :: a12 :: a13 :: a14 :: a15 :: a16 :: a17 :: a18 :: a19 :: a20 :: a21 :: .ow x :: r) kd = kd x := propext ⟨fun ⟨c, e, h⟩ => by cases e; exact h, fun h => ⟨x, rfl, h⟩⟩
theorem o_bo23 {a0 a1 a2 a3 a4 a5 a6 a7 a8 a9 a10 a11 a12 a13 a14 a15 a16 a17 a18 a19 a20 a21 a22 : Sl} : with1 (.bw 23) (a0 :: a1 :: a2 :: a3 :: a4 :: a5 :: a6 :: a7 :: a8 :: a9 :: a10 :: a11 :: a12 :: a13 :: a14 :: a15 :: a16 :: a17 :: a18 :: a19 :: a20 :: a21 :: a22 :: .ow x :: r) kd = kd x := propext ⟨fun ⟨c, e, h⟩ => by cases e; exact h, fun h => ⟨x, rfl, h⟩⟩
theorem o_bf0 : with1 (.bw 0) (.fz x :: r) kd = kd x := propext ⟨fun ⟨c, e, h⟩ => by cases e; exact h, fun h => ⟨x, rfl, h⟩⟩
theorem o_bf1 {a0 : Sl} : with1 (.bw 1) (a0 :: .fz x :: r) kd = kd x := propext ⟨fun ⟨c, e, h⟩ => by cases e; exact h, fun h => ⟨x, rfl, h⟩⟩
theorem o_bf2 {a0 a1 : Sl} : with1 (.bw 2) (a0 :: a1 :: .fz x :: r) kd = kd x := propext ⟨fun ⟨c, e, h⟩ => by cases e; exact h, fun h => ⟨x, rfl, h⟩⟩
theorem o_bf3 {a0 a1 a2 : Sl} : with1 (.bw 3) (a0 :: a1 :: a2 :: .fz x :: r) kd = kd x := propext ⟨fun ⟨c, e, h⟩ => by cases e; exact h, fun h => ⟨x, rfl, h⟩⟩
theorem o_bf4 {a0 a1 a2 a3 : Sl} : with1 (.bw 4) (a0 :: a1 :: a2 :: a3 :: .fz x :: r) kd = kd x := propext ⟨fun ⟨c, e, h⟩ => by cases e; exact h, fun h => ⟨x, rfl, h⟩⟩
theorem o_bf5 {a0 a1 a2 a3 a4 : Sl} : with1 (.bw 5) (a0 :: a1 :: a2 :: a3 :: a4 :: .fz x :: r) kd = kd x := propext ⟨fun ⟨c, e, h⟩ => by cases e; exact h, fun h => ⟨x, rfl, h⟩⟩
theorem o_bf6 {a0 a1 a2 a3 a4 a5 : Sl} : with1 (.bw 6) (a0 :: a1 :: a2 :: a3 :: a4 :: a5 :: .fz x :: r) kd = kd x := propext ⟨fun ⟨c, e, h⟩ => by cases e; exact h, fun h => ⟨x, rfl, h⟩⟩
theorem o_bf7 {a0 a1 a2 a3 a4 a5 a6 : Sl} : with1 (.bw 7) (a0 :: a1 :: a2 :: a3 :: a4 :: a5 :: a6 :: .fz x :: r) kd = kd x := propext ⟨fun ⟨c, e, h⟩ => by cases e; exact h, fun h => ⟨x, rfl, h⟩⟩
theorem o_bf8 {a0 a1 a2 a3 a4 a5 a6 a7 : Sl} : with1 (.bw 8) (a0 :: a1 :: a2 :: a3 :: a4 :: a5 :: a6 :: a7 :: .fz x :: r) kd = kd x := propext ⟨fun ⟨c, e, h⟩ => by cases e; exact h, fun h => ⟨x, rfl, h⟩⟩
theorem o_bf9 {a0 a1 a2 a3 a4 a5 a6 a7 a8 : Sl} : with1 (.bw 9) (a0 :: a1 :: a2 :: a3 :: a4 :: a5 :: a6 :: a7 :: a8 :: .fz x :: r) kd = kd x := propext ⟨fun ⟨c, e, h⟩ => by cases e; exact h, fun h => ⟨x, rfl, h⟩⟩
theorem o_bf10 {a0 a1 a2 a3 a4 a5 a6 a7 a8 a9 : Sl} : with1 (.bw 10) (a0 :: a1 :: a2 :: a3 :: a4 :: a5 :: a6 :: a7 :: a8 :: a9 :: .fz x :: r) kd = kd x := propext ⟨fun ⟨c, e, h⟩ => by cases e; exact h, fun h => ⟨x, rfl, h⟩⟩
theorem o_bf11 {a0 a1 a2 a3 a4 a5 a6 a7 a8 a9 a10 : Sl} : with1 (.bw 11) (a0 :: a1 :: a2 :: a3 :: a4 :: a5 :: a6 :: a7 :: a8 :: a9 :: a10 :: .fz x :: r) kd = kd x := propext ⟨fun ⟨c, e, h⟩ => by cases e; exact h, fun h => ⟨x, rfl, h⟩⟩
theorem o_bf12 {a0 a1 a2 a3 a4 a5 a6 a7 a8 a9 a10 a11 : Sl} : with1 (.bw 12) (a0 :: a1 :: a2 :: a3 :: a4 :: a5 :: a6 :: a7 :: a8 :: a9 :: a10 :: a11 :: .fz x :: r) kd = kd x := propext ⟨fun ⟨c, e, h⟩ => by cases e; exact h, fun h => ⟨x, rfl, h⟩⟩
theorem o_bf13 {a0 a1 a2 a3 a4 a5 a6 a7 a8 a9 a10 a11 a12 : Sl} : with1 (.bw 13) (a0 :: a1 :: a2 :: a3 :: a4 :: a5 :: a6 :: a7 :: a8 :: a9 :: a10 :: a11 :: a12 :: .fz x :: r) kd = kd x := propext ⟨fun ⟨c, e, h⟩ => by cases e; exact h, fun h => ⟨x, rfl, h⟩⟩
theorem o_bf14 {a0 a1 a2 a3 a4 a5 a6 a7 a8 a9 a10 a11 a12 a13 : Sl} : with1 (.bw 14) (a0 :: a1 :: a2 :: a3 :: a4 :: a5 :: a6 :: a7 :: a8 :: a9 :: a10 :: a11 :: a12 :: a13 :: .fz x :: r) kd = kd x := propext ⟨fun ⟨c, e, h⟩ => by cases e; exact h, fun h => ⟨x, rfl, h⟩⟩
theorem o_bf15 {a0 a1 a2 a3 a4 a5 a6 a7 a8 a9 a10 a11 a12 a13 a14 : Sl} : with1 (.bw 15) (a0 :: a1 :: a2 :: a3 :: a4 :: a5 :: a6 :: a7 :: a8 :: a9 :: a10 :: a11 :: a12 :: a13 :: a14 :: .fz x :: r) kd = kd x := propext ⟨fun ⟨c, e, h⟩ => by cases e; exact h, fun h => ⟨x, rfl, h⟩⟩
theorem o_bf16 {a0 a1 a2 a3 a4 a5 a6 a7 a8 a9 a10 a11 a12 a13 a14 a15 : Sl} : with1 (.bw 16) (a0 :: a1 :: a2 :: a3 :: a4 :: a5 :: a6 :: a7 :: a8 :: a9 :: a10 :: a11 :: a12 :: a13 :: a14 :: a15 :: .fz x :: r) kd = kd x := propext ⟨fun ⟨c, e, h⟩ => by cases e; exact h, fun h => ⟨x, rfl, h⟩⟩
theorem o_bf17 {a0 a1 a2 a3 a4 a5 a6 a7 a8 a9 a10 a11 a12 a13 a14 a15 a16 : Sl} : with1 (.bw 17) (a0 :: a1 :: a2 :: a3 :: a4 :: a5 :: a6 :: a7 :: a8 :: a9 :: a10 :: a11 :: a12 :: a13 :: a14 :: a15 :: a16 :: .fz x :: r) kd = kd x := propext ⟨fun ⟨c, e, h⟩ => by cases e; exact h, fun h => ⟨x, rfl, h⟩⟩
theorem o_bf18 {a0 a1 a2 a3 a4 a5 a6 a7 a8 a9 a10 a11 a12 a13 a14 a15 a16 a17 : Sl} : with1 (.bw 18) (a0 :: a1 :: a2 :: a3 :: a4 :: a5 :: a6 :: a7 :: a8 :: a9 :: a10 :: a11 :: a12 :: a13 :: a14 :: a15 :: a16 :: a17 :: .fz x :: r) kd = kd x := propext ⟨fun ⟨c, e, h⟩ => by cases e; exact h, fun h => ⟨x, rfl, h⟩⟩
theorem o_bf19 {a0 a1 a2 a3 a4 a5 a6 a7 a8 a9 a10 a11 a12 a13 a14 a15 a16 a17 a18 : Sl} : with1 (.bw 19) (a0 :: a1 :: a2 :: a3 :: a4 :: a5 :: a6 :: a7 :: a8 :: a9 :: a10 :: a11 :: a12 :: a13 :: a14 :: a15 :: a16 :: a17 :: a18 :: .fz x :: r) kd = kd x := propext ⟨fun ⟨c, e, h⟩ => by cases e; exact h, fun h => ⟨x, rfl, h⟩⟩
theorem o_bf20 {a0 a1 a2 a3 a4 a5 a6 a7 a8 a9 a10 a11 a12 a13 a14 a15 a16 a17 a18 a19 : Sl} : with1 (.bw 20) (a0 :: a1 :: a2 :: a3 :: a4 :: a5 :: a6 :: a7 :: a8 :: a9 :: a10 :: a11 :: a12 :: a13 :: a14 :: a15 :: a16 :: a17 :: a18 :: a19 :: .fz x :: r) kd = kd x := propext ⟨fun ⟨c, e, h⟩ => by cases e; exact h, fun h => ⟨x, rfl, h⟩⟩
theorem o_bf21 {a0 a1 a2 a3 a4 a5 a6 a7 a8 a9 a10 a11 a12 a13 a14 a15 a16 a17 a18 a19 a20 : Sl} : with1 (.bw 21) (a0 :: a1 :: a2 :: a3 :: a4 :: a5 :: a6 :: a7 :: a8 :: a9 :: a10 :: a11 :: a12 :: a13 :: a14 :: a15 :: a16 :: a17 :: a18 :: a19 :: a20 :: .fz x :: r) kd = kd x := propext ⟨fun ⟨c, e, h⟩ => by cases e; exact h, fun h => ⟨x, rfl, h⟩⟩
theorem o_bf22 {a0 a1 a2 a3 a4 a5 a6 a7 a8 a9 a10 a11 a12 a13 a14 a15 a16 a17 a18 a19 a20 a21 : Sl} : with1 (.bw 22) (a0 :: a1 :: a2 :: a3 :: a4 :: a5 :: a6 :: a7 :: a8 :: a9 :: a10 :: a11 :: a12 :: a13 :: a14 :: a15 :: a16 :: a17 :: a18 :: a19 :: a20 :: a21 :: .fz x :: r) kd = kd x := propext ⟨fun ⟨c, e, h⟩ => by cases e; exact h, fun h => ⟨x, rfl, h⟩⟩
theorem o_bf23 {a0 a1 a2 a3 a4 a5 a6 a7 a8 a9 a10 a11 a12 a13 a14 a15 a16 a17 a18 a19 a20 a21 a22 : Sl} : with1 (.bw 23) (a0 :: a1 :: a2 :: a3 :: a4 :: a5 :: a6 :: a7 :: a8 :: a9 :: a10 :: a11 :: a12 :: a13 :: a14 :: a15 :: a16 :: a17 :: a18 :: a19 :: a20 :: a21 :: a22 :: .fz x :: r) kd = kd x := propext ⟨fun ⟨c, e, h⟩ => by cases e; exact h, fun h => ⟨x, rfl, h⟩⟩
theorem st_f0 : setV 0 (.fz x) (sx :: r) n = n (.fz x :: r) := propext ⟨fun h => h.2, fun h => ⟨by simp, h⟩⟩
theorem st_f1 {a0 : Sl} : setV 1 (.fz x) (a0 :: sx :: r) n = n (a0 :: .fz x :: r) := propext ⟨fun h => h.2, fun h => ⟨by simp, h⟩⟩
theorem st_f2 {a0 a1 : Sl} : setV 2 (.fz x) (a0 :: a1 :: sx :: r) n = n (a0 :: a1 :: .fz x :: r) := propext ⟨fun h => h.2, fun h => ⟨by simp, h⟩⟩
theorem st_f3 {a0 a1 a2 : Sl} : setV 3 (.fz x) (a0 :: a1 :: a2 :: sx :: r) n = n (a0 :: a1 :: a2 :: .fz x :: r) := propext ⟨fun h => h.2, fun h => ⟨by simp, h⟩⟩
theorem st_f4 {a0 a1 a2 a3 : Sl} : setV 4 (.fz x) (a0 :: a1 :: a2 :: a3 :: sx :: r) n = n (a0 :: a1 :: a2 :: a3 :: .fz x :: r) := propext ⟨fun h => h.2, fun h => ⟨by simp, h⟩⟩
theorem st_f5 {a0 a1 a2 a3 a4 : Sl} : setV 5 (.fz x) (a0 :: a1 :: a2 :: a3 :: a4 :: sx :: r) n = n (a0 :: a1 :: a2 :: a3 :: a4 :: .fz x :: r) := propext ⟨fun h => h.2, fun h => ⟨by simp, h⟩⟩
theorem st_f6 {a0 a1 a2 a3 a4 a5 : Sl} : setV 6 (.fz x) (a0 :: a1 :: a2 :: a3 :: a4 :: a5 :: sx :: r) n = n (a0 :: a1 :: a2 :: a3 :: a4 :: a5 :: .fz x :: r) := propext ⟨fun h => h.2, fun h => ⟨by simp, h⟩⟩
theorem st_f7 {a0 a1 a2 a3 a4 a5 a6 : Sl} : setV 7 (.fz x) (a0 :: a1 :: a2 :: a3 :: a4 :: a5 :: a6 :: sx :: r) n = n (a0 :: a1 :: a2 :: a3 :: a4 :: a5 :: a6 :: .fz x :: r) := propext ⟨fun h => h.2, fun h => ⟨by simp, h⟩⟩
theorem st_f8 {a0 a1 a2 a3 a4 a5 a6 a7 : Sl} : setV 8 (.fz x) (a0 :: a1 :: a2 :: a3 :: a4 :: a5 :: a6 :: a7 :: sx :: r) n = n (a0 :: a1 :: a2 :: a3 :: a4 :: a5 :: a6 :: a7 :: .fz x :: r) := propext ⟨fun h => h.2, fun h => ⟨by simp, h⟩⟩
theorem st_f9 {a0 a1 a2 a3 a4 a5 a6 a7 a8 : Sl} : setV 9 (.fz x) (a0 :: a1 :: a2 :: a3 :: a4 :: a5 :: a6 :: a7 :: a8 :: sx :: r) n = n (a0 :: a1 :: a2 :: a3 :: a4 :: a5 :: a6 :: a7 :: a8 :: .fz x :: r) := propext ⟨fun h => h.2, fun h => ⟨by simp, h⟩⟩
theorem st_f10 {a0 a1 a2 a3 a4 a5 a6 a7 a8 a9 : Sl} : setV 10 (.fz x) (a0 :: a1 :: a2 :: a3 :: a4 :: a5 :: a6 :: a7 :: a8 :: a9 :: sx :: r) n = n (a0 :: a1 :: a2 :: a3 :: a4 :: a5 :: a6 :: a7 :: a8 :: a9 :: .fz x :: r) := propext ⟨fun h => h.2, fun h => ⟨by simp, h⟩⟩
theorem st_f11 {a0 a1 a2 a3 a4 a5 a6 a7 a8 a9 a10 : Sl} : setV 11 (.fz x) (a0 :: a1 :: a2 :: a3 :: a4 :: a5 :: a6 :: a7 :: a8 :: a9 :: a10 :: sx :: r) n = n (a0 :: a1 :: a2 :: a3 :: a4 :: a5 :: a6 :: a7 :: a8 :: a9 :: a10 :: .fz x :: r) := propext ⟨fun h => h.2, fun h => ⟨by simp, h⟩⟩
theorem st_f12 {a0 a1 a2 a3 a4 a5 a6 a7 a8 a9 a10 a11 : Sl} : setV 12 (.fz x) (a0 :: a1 :: a2 :: a3 :: a4 :: a5 :: a6 :: a7 :: a8 :: a9 :: a10 :: a11 :: sx :: r) n = n (a0 :: a1 :: a2 :: a3 :: a4 :: a5 :: a6 :: a7 :: a8 :: a9 :: a10 :: a11 :: .fz x :: r) := propext ⟨fun h => h.2, fun h => ⟨by simp, h⟩⟩
theorem st_f13 {a0 a1 a2 a3 a4 a5 a6 a7 a8 a9 a10 a11 a12 : Sl} : setV 13 (.fz x) (a0 :: a1 :: a2 :: a3 :: a4 :: a5 :: a6 :: a7 :: a8 :: a9 :: a10 :: a11 :: a12 :: sx :: r) n = n (a0 :: a1 :: a2 :: a3 :: a4 :: a5 :: a6 :: a7 :: a8 :: a9 :: a10 :: a11 :: a12 :: .fz x :: r) := propext ⟨fun h => h.2, fun h => ⟨by simp, h⟩⟩
theorem st_f14 {a0 a1 a2 a3 a4 a5 a6 a7 a8 a9 a10 a11 a12 a13 : Sl} : setV 14 (.fz x) (a0 :: a1 :: a2 :: a3 :: a4 :: a5 :: a6 :: a7 :: a8 :: a9 :: a10 :: a11 :: a12 :: a13 :: sx :: r) n = n (a0 :: a1 :: a2 :: a3 :: a4 :: a5 :: a6 :: a7 :: a8 :: a9 :: a10 :: a11 :: a12 :: a13 :: .fz x :: r) := propext ⟨fun h => h.2, fun h => ⟨by simp, h⟩⟩
theorem st_f15 {a0 a1 a2 a3 a4 a5 a6 a7 a8 a9 a10 a11 a12 a13 a14 : Sl} : setV 15 (.fz x) (a0 :: a1 :: a2 :: a3 :: a4 :: a5 :: a6 :: a7 :: a8 :: a9 :: a10 :: a11 :: a12 :: a13 :: a14 :: sx :: r) n = n (a0 :: a1 :: a2 :: a3 :: a4 :: a5 :: a6 :: a7 :: a8 :: a9 :: a10 :: a11 :: a12 :: a13 :: a14 :: .fz x :: r) := propext ⟨fun h => h.2, fun h => ⟨by simp, h⟩⟩
theorem st_f16 {a0 a1 a2 a3 a4 a5 a6 a7 a8 a9 a10 a11 a12 a13 a14 a15 : Sl} : setV 16 (.fz x) (a0 :: a1 :: a2 :: a3 :: a4 :: a5 :: a6 :: a7 :: a8 :: a9 :: a10 :: a11 :: a12 :: a13 :: a14 :: a15 :: sx :: r) n = n (a0 :: a1 :: a2 :: a3 :: a4 :: a5 :: a6 :: a7 :: a8 :: a9 :: a10 :: a11 :: a12 :: a13 :: a14 :: a15 :: .fz x :: r) := propext ⟨fun h => h.2, fun h => ⟨by simp, h⟩⟩
theorem st_f17 {a0 a1 a2 a3 a4 a5 a6 a7 a8 a9 a10 a11 a12 a13 a14 a15 a16 : Sl} : setV 17 (.fz x) (a0 :: a1 :: a2 :: a3 :: a4 :: a5 :: a6 :: a7 :: a8 :: a9 :: a10 :: a11 :: a12 :: a13 :: a14 :: a15 :: a16 :: sx :: r) n = n (a0 :: a1 :: a2 :: a3 :: a4 :: a5 :: a6 :: a7 :: a8 :: a9 :: a10 :: a11 :: a12 :: a13 :: a14 :: a15 :: a16 :: .fz x :: r) := propext ⟨fun h => h.2, fun h => ⟨by simp, h⟩⟩
theorem st_f18 {a0 a1 a2 a3 a4 a5 a6 a7 a8 a9 a10 a11 a12 a13 a14 a15 a16 a17 : Sl} : setV 18 (.fz x) (a0 :: a1 :: a2 :: a3 :: a4 :: a5 :: a6 :: a7 :: a8 :: a9 :: a10 :: a11 :: a12 :: a13 :: a14 :: a15 :: a16 :: a17 :: sx :: r) n = n (a0 :: a1 :: a2 :: a3 :: a4 :: a5 :: a6 :: a7 :: a8 :: a9 :: a10 :: a11 :: a12 :: a13 :: a14 :: a15 :: a16 :: a17 :: .fz x :: r) := propext ⟨fun h => h.2, fun h => ⟨by simp, h⟩⟩
theorem st_f19 {a0 a1 a2 a3 a4 a5 a6 a7 a8 a9 a10 a11 a12 a13 a14 a15 a16 a17 a18 : Sl} : setV 19 (.fz x) (a0 :: a1 :: a2 :: a3 :: a4 :: a5 :: a6 :: a7 :: a8 :: a9 :: a10 :: a11 :: a12 :: a13 :: a14 :: a15 :: a16 :: a17 :: a18 :: sx :: r) n = n (a0 :: a1 :: a2 :: a3 :: a4 :: a5 :: a6 :: a7 :: a8 :: a9 :: a10 :: a11 :: a12 :: a13 :: a14 :: a15 :: a16 :: a17 :: a18 :: .fz x :: r) := propext ⟨fun h => h.2, fun h => ⟨by simp, h⟩⟩
theorem st_f20 {a0 a1 a2 a3 a4 a5 a6 a7 a8 a9 a10 a11 a12 a13 a14 a15 a16 a17 a18 a19 : Sl} : setV 20 (.fz x) (a0 :: a1 :: a2 :: a3 :: a4 :: a5 :: a6 :: a7 :: a8 :: a9 :: a10 :: a11 :: a12 :: a13 :: a14 :: a15 :: a16 :: a17 :: a18 :: a19 :: sx :: r) n = n (a0 :: a1 :: a2 :: a3 :: a4 :: a5 :: a6 :: a7 :: a8 :: a9 :: a10 :: a11 :: a12 :: a13 :: a14 :: a15 :: a16 :: a17 :: a18 :: a19 :: .fz x :: r) := propext ⟨fun h => h.2, fun h => ⟨by simp, h⟩⟩
theorem st_f21 {a0 a1 a2 a3 a4 a5 a6 a7 a8 a9 a10 a11 a12 a13 a14 a15 a16 a17 a18 a19 a20 : Sl} : setV 21 (.fz x) (a0 :: a1 :: a2 :: a3 :: a4 :: a5 :: a6 :: a7 :: a8 :: a9 :: a10 :: a11 :: a12 :: a13 :: a14 :: a15 :: a16 :: a17 :: a18 :: a19 :: a20 :: sx :: r) n = n (a0 :: a1 :: a2 :: a3 :: a4 :: a5 :: a6 :: a7 :: a8 :: a9 :: a10 :: a11 :: a12 :: a13 :: a14 :: a15 :: a16 :: a17 :: a18 :: a19 :: a20 :: .fz x :: r) := propext ⟨fun h => h.2, fun h => ⟨by simp, h⟩⟩
theorem st_f22 {a0 a1 a2 a3 a4 a5 a6 a7 a8 a9 a10 a11 a12 a13 a14 a15 a16 a17 a18 a19 a20 a21 : Sl} : setV 22 (.fz x) (a0 :: a1 :: a2 :: a3 :: a4 :: a5 :: a6 :: a7 :: a8 :: a9 :: a10 :: a11 :: a12 :: a13 :: a14 :: a15 :: a16 :: a17 :: a18 :: a19 :: a20 :: a21 :: sx :: r) n = n (a0 :: a1 :: a2 :: a3 :: a4 :: a5 :: a6 :: a7 :: a8 :: a9 :: a10 :: a11 :: a12 :: a13 :: a14 :: a15 :: a16 :: a17 :: a18 :: a19 :: a20 :: a21 :: .fz x :: r) := propext ⟨fun h => h.2, fun h => ⟨by simp, h⟩⟩
theorem st_f23 {a0 a1 a2 a3 a4 a5 a6 a7 a8 a9 a10 a11 a12 a13 a14 a15 a16 a17 a18 a19 a20 a21 a22 : Sl} : setV 23 (.fz x) (a0 :: a1 :: a2 :: a3 :: a4 :: a5 :: a6 :: a7 :: a8 :: a9 :: a10 :: a11 :: a12 :: a13 :: a14 :: a15 :: a16 :: a17 :: a18 :: a19 :: a20 :: a21 :: a22 :: sx :: r) n = n (a0 :: a1 :: a2 :: a3 :: a4 :: a5 :: a6 :: a7 :: a8 :: a9 :: a10 :: a11 :: a12 :: a13 :: a14 :: a15 :: a16 :: a17 :: a18 :: a19 :: a20 :: a21 :: a22 :: .fz x :: r) := propext ⟨fun h => h.2, fun h => ⟨by simp, h⟩⟩
theorem st_o0 : setV 0 (.fr x) (sx :: r) n = n (.ow x :: r) := propext ⟨fun h => h.2, fun h => ⟨by simp, h⟩⟩
theorem st_o1 {a0 : Sl} : setV 1 (.fr x) (a0 :: sx :: r) n = n (a0 :: .ow x :: r) := propext ⟨fun h => h.2, fun h => ⟨by simp, h⟩⟩
theorem st_o2 {a0 a1 : Sl} : setV 2 (.fr x) (a0 :: a1 :: sx :: r) n = n (a0 :: a1 :: .ow x :: r) := propext ⟨fun h => h.2, fun h => ⟨by simp, h⟩⟩
theorem st_o3 {a0 a1 a2 : Sl} : setV 3 (.fr x) (a0 :: a1 :: a2 :: sx :: r) n = n (a0 :: a1 :: a2 :: .ow x :: r) := propext ⟨fun h => h.2, fun h => ⟨by simp, h⟩⟩
theorem st_o4 {a0 a1 a2 a3 : Sl} : setV 4 (.fr x) (a0 :: a1 :: a2 :: a3 :: sx :: r) n = n (a0 :: a1 :: a2 :: a3 :: .ow x :: r) := propext ⟨fun h => h.2, fun h => ⟨by simp, h⟩⟩
theorem st_o5 {a0 a1 a2 a3 a4 : Sl} : setV 5 (.fr x) (a0 :: a1 :: a2 :: a3 :: a4 :: sx :: r) n = n (a0 :: a1 :: a2 :: a3 :: a4 :: .ow x :: r) := propext ⟨fun h => h.2, fun h => ⟨by simp, h⟩⟩
theorem st_o6 {a0 a1 a2 a3 a4 a5 : Sl} : setV 6 (.fr x) (a0 :: a1 :: a2 :: a3 :: a4 :: a5 :: sx :: r) n = n (a0 :: a1 :: a2 :: a3 :: a4 :: a5 :: .ow x :: r) := propext ⟨fun h => h.2, fun h => ⟨by simp, h⟩⟩
theorem st_o7 {a0 a1 a2 a3 a4 a5 a6 : Sl} : setV 7 (.fr x) (a0 :: a1 :: a2 :: a3 :: a4 :: a5 :: a6 :: sx :: r) n = n (a0 :: a1 :: a2 :: a3 :: a4 :: a5 :: a6 :: .ow x :: r) := propext ⟨fun h => h.2, fun h => ⟨by simp, h⟩⟩
theorem st_o8 {a0 a1 a2 a3 a4 a5 a6 a7 : Sl} : setV 8 (.fr x) (a0 :: a1 :: a2 :: a3 :: a4 :: a5 :: a6 :: a7 :: sx :: r) n = n (a0 :: a1 :: a2 :: a3 :: a4 :: a5 :: a6 :: a7 :: .ow x :: r) := propext ⟨fun h => h.2, fun h => ⟨by simp, h⟩⟩
theorem st_o9 {a0 a1 a2 a3 a4 a5 a6 a7 a8 : Sl} : setV 9 (.fr x) (a0 :: a1 :: a2 :: a3 :: a4 :: a5 :: a6 :: a7 :: a8 :: sx :: r) n = n (a0 :: a1 :: a2 :: a3 :: a4 :: a5 :: a6 :: a7 :: a8 :: .ow x :: r) := propext ⟨fun h => h.2, fun h => ⟨by simp, h⟩⟩
theorem st_o10 {a0 a1 a2 a3 a4 a5 a6 a7 a8 a9 : Sl} : setV 10 (.fr x) (a0 :: a1 :: a2 :: a3 :: a4 :: a5 :: a6 :: a7 :: a8 :: a9 :: sx :: r) n = n (a0 :: a1 :: a2 :: a3 :: a4 :: a5 :: a6 :: a7 :: a8 :: a9 :: .ow x :: r) := propext ⟨fun h => h.2, fun h => ⟨by simp, h⟩⟩
theorem st_o11 {a0 a1 a2 a3 a4 a5 a6 a7 a8 a9 a10 : Sl} : setV 11 (.fr x) (a0 :: a1 :: a2 :: a3 :: a4 :: a5 :: a6 :: a7 :: a8 :: a9 :: a10 :: sx :: r) n = n (a0 :: a1 :: a2 :: a3 :: a4 :: a5 :: a6 :: a7 :: a8 :: a9 :: a10 :: .ow x :: r) := propext ⟨fun h => h.2, fun h => ⟨by simp, h⟩⟩
theorem st_o12 {a0 a1 a2 a3 a4 a5 a6 a7 a8 a9 a10 a11 : Sl} : setV 12 (.fr x) (a0 :: a1 :: a2 :: a3 :: a4 :: a5 :: a6 :: a7 :: a8 :: a9 :: a10 :: a11 :: sx :: r) n = n (a0 :: a1 :: a2 :: a3 :: a4 :: a5 :: a6 :: a7 :: a8 :: a9 :: a10 :: a11 :: .ow x :: r) := propext ⟨fun h => h.2, fun h => ⟨by simp, h⟩⟩
theorem st_o13 {a0 a1 a2 a3 a4 a5 a6 a7 a8 a9 a10 a11 a12 : Sl} : setV 13 (.fr x) (a0 :: a1 :: a2 :: a3 :: a4 :: a5 :: a6 :: a7 :: a8 :: a9 :: a10 :: a11 :: a12 :: sx :: r) n = n (a0 :: a1 :: a2 :: a3 :: a4 :: a5 :: a6 :: a7 :: a8 :: a9 :: a10 :: a11 :: a12 :: .ow x :: r) := propext ⟨fun h => h.2, fun h => ⟨by simp, h⟩⟩
theorem st_o14 {a0 a1 a2 a3 a4 a5 a6 a7 a8 a9 a10 a11 a12 a13 : Sl} : setV 14 (.fr x) (a0 :: a1 :: a2 :: a3 :: a4 :: a5 :: a6 :: a7 :: a8 :: a9 :: a10 :: a11 :: a12 :: a13 :: sx :: r) n = n (a0 :: a1 :: a2 :: a3 :: a4 :: a5 :: a6 :: a7 :: a8 :: a9 :: a10 :: a11 :: a12 :: a13 :: .ow x :: r) := propext ⟨fun h => h.2, fun h => ⟨by simp, h⟩⟩
theorem st_o15 {a0 a1 a2 a3 a4 a5 a6 a7 a8 a9 a10 a11 a12 a13 a14 : Sl} : setV 15 (.fr x) (a0 :: a1 :: a2 :: a3 :: a4 :: a5 :: a6 :: a7 :: a8 :: a9 :: a10 :: a11 :: a12 :: a13 :: a14 :: sx :: r) n = n (a0 :: a1 :: a2 :: a3 :: a4 :: a5 :: a6 :: a7 :: a8 :: a9 :: a10 :: a11 :: a12 :: a13 :: a14 :: .ow x :: r) := propext ⟨fun h => h.2, fun h => ⟨by simp, h⟩⟩
theorem st_o16 {a0 a1 a2 a3 a4 a5 a6 a7 a8 a9 a10 a11 a12 a13 a14 a15 : Sl} : setV 16 (.fr x) (a0 :: a1 :: a2 :: a3 :: a4 :: a5 :: a6 :: a7 :: a8 :: a9 :: a10 :: a11 :: a12 :: a13 :: a14 :: a15 :: sx :: r) n = n (a0 :: a1 :: a2 :: a3 :: a4 :: a5 :: a6 :: a7 :: a8 :: a9 :: a10 :: a11 :: a12 :: a13 :: a14 :: a15 :: .ow x :: r) := propext ⟨fun h => h.2, fun h => ⟨by simp, h⟩⟩
theorem st_o17 {a0 a1 a2 a3 a4 a5 a6 a7 a8 a9 a10 a11 a12 a13 a14 a15 a16 : Sl} : setV 17 (.fr x) (a0 :: a1 :: a2 :: a3 :: a4 :: a5 :: a6 :: a7 :: a8 :: a9 :: a10 :: a11 :: a12 :: a13 :: a14 :: a15 :: a16 :: sx :: r) n = n (a0 :: a1 :: a2 :: a3 :: a4 :: a5 :: a6 :: a7 :: a8 :: a9 :: a10 :: a11 :: a12 :: a13 :: a14 :: a15 :: a16 :: .ow x :: r) := propext ⟨fun h => h.2, fun h => ⟨by simp, h⟩⟩
theorem st_o18 {a0 a1 a2 a3 a4 a5 a6 a7 a8 a9 a10 a11 a12 a13 a14 a15 a16 a17 : Sl} : setV 18 (.fr x) (a0 :: a1 :: a2 :: a3 :: a4 :: a5 :: a6 :: a7 :: a8 :: a9 :: a10 :: a11 :: a12 :: a13 :: a14 :: a15 :: a16 :: a17 :: sx :: r) n = n (a0 :: a1 :: a2 :: a3 :: a4 :: a5 :: a6 :: a7 :: a8 :: a9 :: a10 :: a11 :: a12 :: a13 :: a14 :: a15 :: a16 :: a17 :: .ow x :: r) := propext ⟨fun h => h.2, fun h => ⟨by simp, h⟩⟩
theorem st_o19 {a0 a1 a2 a3 a4 a5 a6 a7 a8 a9 a10 a11 a12 a13 a14 a15 a16 a17 a18 : Sl} : setV 19 (.fr x) (a0 :: a1 :: a2 :: a3 :: a4 :: a5 :: a6 :: a7 :: a8 :: a9 :: a10 :: a11 :: a12 :: a13 :: a14 :: a15 :: a16 :: a17 :: a18 :: sx :: r) n = n (a0 :: a1 :: a2 :: a3 :: a4 :: a5 :: a6 :: a7 :: a8 :: a9 :: a10 :: a11 :: a12 :: a13 :: a14 :: a15 :: a16 :: a17 :: a18 :: .ow x :: r) := propext ⟨fun h => h.2, fun h => ⟨by simp, h⟩⟩
theorem st_o20 {a0 a1 a2 a3 a4 a5 a6 a7 a8 a9 a10 a11 a12 a13 a14 a15 a16 a17 a18 a19 : Sl} : setV 20 (.fr x) (a0 :: a1 :: a2 :: a3 :: a4 :: a5 :: a6 :: a7 :: a8 :: a9 :: a10 :: a11 :: a12 :: a13 :: a14 :: a15 :: a16 :: a17 :: a18 :: a19 :: sx :: r) n = n (a0 :: a1 :: a2 :: a3 :: a4 :: a5 :: a6 :: a7 :: a8 :: a9 :: a10 :: a11 :: a12 :: a13 :: a14 :: a15 :: a16 :: a17 :: a18 :: a19 :: .ow x :: r) := propext ⟨fun h => h.2, fun h => ⟨by simp, h⟩⟩
theorem st_o21 {a0 a1 a2 a3 a4 a5 a6 a7 a8 a9 a10 a11 a12 a13 a14 a15 a16 a17 a18 a19 a20 : Sl} : setV 21 (.fr x) (a0 :: a1 :: a2 :: a3 :: a4 :: a5 :: a6 :: a7 :: a8 :: a9 :: a10 :: a11 :: a12 :: a13 :: a14 :: a15 :: a16 :: a17 :: a18 :: a19 :: a20 :: sx :: r) n = n (a0 :: a1 :: a2 :: a3 :: a4 :: a5 :: a6 :: a7 :: a8 :: a9 :: a10 :: a11 :: a12 :: a13 :: a14 :: a15 :: a16 :: a17 :: a18 :: a19 :: a20 :: .ow x :: r) := propext ⟨fun h => h.2, fun h => ⟨by simp, h⟩⟩
theorem st_o22 {a0 a1 a2 a3 a4 a5 a6 a7 a8 a9 a10 a11 a12 a13 a14 a15 a16 a17 a18 a19 a20 a21 : Sl} : setV 22 (.fr x) (a0 :: a1 :: a2 :: a3 :: a4 :: a5 :: a6 :: a7 :: a8 :: a9 :: a10 :: a11 :: a12 :: a13 :: a14 :: a15 :: a16 :: a17 :: a18 :: a19 :: a20 :: a21 :: sx :: r) n = n (a0 :: a1 :: a2 :: a3 :: a4 :: a5 :: a6 :: a7 :: a8 :: a9 :: a10 :: a11 :: a12 :: a13 :: a14 :: a15 :: a16 :: a17 :: a18 :: a19 :: a20 :: a21 :: .ow x :: r) := propext ⟨fun h => h.2, fun h => ⟨by simp, h⟩⟩
theorem st_o23 {a0 a1 a2 a3 a4 a5 a6 a7 a8 a9 a10 a11 a12 a13 a14 a15 a16 a17 a18 a19 a20 a21 a22 : Sl} : setV 23 (.fr x) (a0 :: a1 :: a2 :: a3 :: a4 :: a5 :: a6 :: a7 :: a8 :: a9 :: a10 :: a11 :: a12 :: a13 :: a14 :: a15 :: a16 :: a17 :: a18 :: a19 :: a20 :: a21 :: a22 :: sx :: r) n = n (a0 :: a1 :: a2 :: a3 :: a4 :: a5 :: a6 :: a7 :: a8 :: a9 :: a10 :: a11 :: a12 :: a13 :: a14 :: a15 :: a16 :: a17 :: a18 :: a19 :: a20 :: a21 :: a22 :: .ow x :: r) := propext ⟨fun h => h.2, fun h => ⟨by simp, h⟩⟩
theorem sb0 : setV 0 (.bw m) (sx :: r) n = Vl.give (.bw m) (sx :: r) fun d e => bindT (.s 0) d e n := st_bw (by simp)
theorem sb1 {a0 : Sl} : setV 1 (.bw m) (a0 :: sx :: r) n = Vl.give (.bw m) (a0 :: sx :: r) fun d e => bindT (.s 1) d e n := st_bw (by simp)
theorem sb2 {a0 a1 : Sl} : setV 2 (.bw m) (a0 :: a1 :: sx :: r) n = Vl.give (.bw m) (a0 :: a1 :: sx :: r) fun d e => bindT (.s 2) d e n := st_bw (by simp)
theorem sb3 {a0 a1 a2 : Sl} : setV 3 (.bw m) (a0 :: a1 :: a2 :: sx :: r) n = Vl.give (.bw m) (a0 :: a1 :: a2 :: sx :: r) fun d e => bindT (.s 3) d e n := st_bw (by simp)
theorem sb4 {a0 a1 a2 a3 : Sl} : setV 4 (.bw m) (a0 :: a1 :: a2 :: a3 :: sx :: r) n = Vl.give (.bw m) (a0 :: a1 :: a2 :: a3 :: sx :: r) fun d e => bindT (.s 4) d e n := st_bw (by simp)
theorem sb5 {a0 a1 a2 a3 a4 : Sl} : setV 5 (.bw m) (a0 :: a1 :: a2 :: a3 :: a4 :: sx :: r) n = Vl.give (.bw m) (a0 :: a1 :: a2 :: a3 :: a4 :: sx :: r) fun d e => bindT (.s 5) d e n := st_bw (by simp)
theorem sb6 {a0 a1 a2 a3 a4 a5 : Sl} : setV 6 (.bw m) (a0 :: a1 :: a2 :: a3 :: a4 :: a5 :: sx :: r) n = Vl.give (.bw m) (a0 :: a1 :: a2 :: a3 :: a4 :: a5 :: sx :: r) fun d e => bindT (.s 6) d e n := st_bw (by simp)
theorem sb7 {a0 a1 a2 a3 a4 a5 a6 : Sl} : setV 7 (.bw m) (a0 :: a1 :: a2 :: a3 :: a4 :: a5 :: a6 :: sx :: r) n = Vl.give (.bw m) (a0 :: a1 :: a2 :: a3 :: a4 :: a5 :: a6 :: sx :: r) fun d e => bindT (.s 7) d e n := st_bw (by simp)
theorem sb8 {a0 a1 a2 a3 a4 a5 a6 a7 : Sl} : setV 8 (.bw m) (a0 :: a1 :: a2 :: a3 :: a4 :: a5 :: a6 :: a7 :: sx :: r) n = Vl.give (.bw m) (a0 :: a1 :: a2 :: a3 :: a4 :: a5 :: a6 :: a7 :: sx :: r) fun d e => bindT (.s 8) d e n := st_bw (by simp)
theorem sb9 {a0 a1 a2 a3 a4 a5 a6 a7 a8 : Sl} : setV 9 (.bw m) (a0 :: a1 :: a2 :: a3 :: a4 :: a5 :: a6 :: a7 :: a8 :: sx :: r) n = Vl.give (.bw m) (a0 :: a1 :: a2 :: a3 :: a4 :: a5 :: a6 :: a7 :: a8 :: sx :: r) fun d e => bindT (.s 9) d e n := st_bw (by simp)
theorem sb10 {a0 a1 a2 a3 a4 a5 a6 a7 a8 a9 : Sl} : setV 10 (.bw m) (a0 :: a1 :: a2 :: a3 :: a4 :: a5 :: a6 :: a7 :: a8 :: a9 :: sx :: r) n = Vl.give (.bw m) (a0 :: a1 :: a2 :: a3 :: a4 :: a5 :: a6 :: a7 :: a8 :: a9 :: sx :: r) fun d e => bindT (.s 10) d e n := st_bw (by simp)
theorem sb11 {a0 a1 a2 a3 a4 a5 a6 a7 a8 a9 a10 : Sl} : setV 11 (.bw m) (a0 :: a1 :: a2 :: a3 :: a4 :: a5 :: a6 :: a7 :: a8 :: a9 :: a10 :: sx :: r) n = Vl.give (.bw m) (a0 :: a1 :: a2 :: a3 :: a4 :: a5 :: a6 :: a7 :: a8 :: a9 :: a10 :: sx :: r) fun d e => bindT (.s 11) d e n := st_bw (by simp)
theorem sb12 {a0 a1 a2 a3 a4 a5 a6 a7 a8 a9 a10 a11 : Sl} : setV 12 (.bw m) (a0 :: a1 :: a2 :: a3 :: a4 :: a5 :: a6 :: a7 :: a8 :: a9 :: a10 :: a11 :: sx :: r) n = Vl.give (.bw m) (a0 :: a1 :: a2 :: a3 :: a4 :: a5 :: a6 :: a7 :: a8 :: a9 :: a10 :: a11 :: sx :: r) fun d e => bindT (.s 12) d e n := st_bw (by simp)
theorem sb13 {a0 a1 a2 a3 a4 a5 a6 a7 a8 a9 a10 a11 a12 : Sl} : setV 13 (.bw m) (a0 :: a1 :: a2 :: a3 :: a4 :: a5 :: a6 :: a7 :: a8 :: a9 :: a10 :: a11 :: a12 :: sx :: r) n = Vl.give (.bw m) (a0 :: a1 :: a2 :: a3 :: a4 :: a5 :: a6 :: a7 :: a8 :: a9 :: a10 :: a11 :: a12 :: sx :: r) fun d e => bindT (.s 13) d e n := st_bw (by simp)
theorem sb14 {a0 a1 a2 a3 a4 a5 a6 a7 a8 a9 a10 a11 a12 a13 : Sl} : setV 14 (.bw m) (a0 :: a1 :: a2 :: a3 :: a4 :: a5 :: a6 :: a7 :: a8 :: a9 :: a10 :: a11 :: a12 :: a13 :: sx :: r) n = Vl.give (.bw m) (a0 :: a1 :: a2 :: a3 :: a4 :: a5 :: a6 :: a7 :: a8 :: a9 :: a10 :: a11 :: a12 :: a13 :: sx :: r) fun d e => bindT (.s 14) d e n := st_bw (by simp)
theorem sb15 {a0 a1 a2 a3 a4 a5 a6 a7 a8 a9 a10 a11 a12 a13 a14 : Sl} : setV 15 (.bw m) (a0 :: a1 :: a2 :: a3 :: a4 :: a5 :: a6 :: a7 :: a8 :: a9 :: a10 :: a11 :: a12 :: a13 :: a14 :: sx :: r) n = Vl.give (.bw m) (a0 :: a1 :: a2 :: a3 :: a4 :: a5 :: a6 :: a7 :: a8 :: a9 :: a10 :: a11 :: a12 :: a13 :: a14 :: sx :: r) fun d e => bindT (.s 15) d e n := st_bw (by simp)
theorem sb16 {a0 a1 a2 a3 a4 a5 a6 a7 a8 a9 a10 a11 a12 a13 a14 a15 : Sl} : setV 16 (.bw m) (a0 :: a1 :: a2 :: a3 :: a4 :: a5 :: a6 :: a7 :: a8 :: a9 :: a10 :: a11 :: a12 :: a13 :: a14 :: a15 :: sx :: r) n = Vl.give (.bw m) (a0 :: a1 :: a2 :: a3 :: a4 :: a5 :: a6 :: a7 :: a8 :: a9 :: a10 :: a11 :: a12 :: a13 :: a14 :: a15 :: sx :: r) fun d e => bindT (.s 16) d e n := st_bw (by simp)
theorem sb17 {a0 a1 a2 a3 a4 a5 a6 a7 a8 a9 a10 a11 a12 a13 a14 a15 a16 : Sl} : setV 17 (.bw m) (a0 :: a1 :: a2 :: a3 :: a4 :: a5 :: a6 :: a7 :: a8 :: a9 :: a10 :: a11 :: a12 :: a13 :: a14 :: a15 :: a16 :: sx :: r) n = Vl.give (.bw m) (a0 :: a1 :: a2 :: a3 :: a4 :: a5 :: a6 :: a7 :: a8 :: a9 :: a10 :: a11 :: a12 :: a13 :: a14 :: a15 :: a16 :: sx :: r) fun d e => bindT (.s 17) d e n := st_bw (by simp)
theorem sb18 {a0 a1 a2 a3 a4 a5 a6 a7 a8 a9 a10 a11 a12 a13 a14 a15 a16 a17 : Sl} : setV 18 (.bw m) (a0 :: a1 :: a2 :: a3 :: a4 :: a5 :: a6 :: a7 :: a8 :: a9 :: a10 :: a11 :: a12 :: a13 :: a14 :: a15 :: a16 :: a17 :: sx :: r) n = Vl.give (.bw m) (a0 :: a1 :: a2 :: a3 :: a4 :: a5 :: a6 :: a7 :: a8 :: a9 :: a10 :: a11 :: a12 :: a13 :: a14 :: a15 :: a16 :: a17 :: sx :: r) fun d e => bindT (.s 18) d e n := st_bw (by simp)
theorem sb19 {a0 a1 a2 a3 a4 a5 a6 a7 a8 a9 a10 a11 a12 a13 a14 a15 a16 a17 a18 : Sl} : setV 19 (.bw m) (a0 :: a1 :: a2 :: a3 :: a4 :: a5 :: a6 :: a7 :: a8 :: a9 :: a10 :: a11 :: a12 :: a13 :: a14 :: a15 :: a16 :: a17 :: a18 :: sx :: r) n = Vl.give (.bw m) (a0 :: a1 :: a2 :: a3 :: a4 :: a5 :: a6 :: a7 :: a8 :: a9 :: a10 :: a11 :: a12 :: a13 :: a14 :: a15 :: a16 :: a17 :: a18 :: sx :: r) fun d e => bindT (.s 19) d e n := st_bw (by simp)
theorem sb20 {a0 a1 a2 a3 a4 a5 a6 a7 a8 a9 a10 a11 a12 a13 a14 a15 a16 a17 a18 a19 : Sl} : setV 20 (.bw m) (a0 :: a1 :: a2 :: a3 :: a4 :: a5 :: a6 :: a7 :: a8 :: a9 :: a10 :: a11 :: a12 :: a13 :: a14 :: a15 :: a16 :: a17 :: a18 :: a19 :: sx :: r) n = Vl.give (.bw m) (a0 :: a1 :: a2 :: a3 :: a4 :: a5 :: a6 :: a7 :: a8 :: a9 :: a10 :: a11 :: a12 :: a13 :: a14 :: a15 :: a16 :: a17 :: a18 :: a19 :: sx :: r) fun d e => bindT (.s 20) d e n := st_bw (by simp)
theorem sb21 {a0 a1 a2 a3 a4 a5 a6 a7 a8 a9 a10 a11 a12 a13 a14 a15 a16 a17 a18 a19 a20 : Sl} : setV 21 (.bw m) (a0 :: a1 :: a2 :: a3 :: a4 :: a5 :: a6 :: a7 :: a8 :: a9 :: a10 :: a11 :: a12 :: a13 :: a14 :: a15 :: a16 :: a17 :: a18 :: a19 :: a20 :: sx :: r) n = Vl.give (.bw m) (a0 :: a1 :: a2 :: a3 :: a4 :: a5 :: a6 :: a7 :: a8 :: a9 :: a10 :: a11 :: a12 :: a13 :: a14 :: a15 :: a16 :: a17 :: a18 :: a19 :: a20 :: sx :: r) fun d e => bindT (.s 21) d e n := st_bw (by simp)
theorem sb22 {a0 a1 a2 a3 a4 a5 a6 a7 a8 a9 a10 a11 a12 a13 a14 a15 a16 a17 a18 a19 a20 a21 : Sl} : setV 22 (.bw m) (a0 :: a1 :: a2 :: a3 :: a4 :: a5 :: a6 :: a7 :: a8 :: a9 :: a10 :: a11 :: a12 :: a13 :: a14 :: a15 :: a16 :: a17 :: a18 :: a19 :: a20 :: a21 :: sx :: r) n = Vl.give (.bw m) (a0 :: a1 :: a2 :: a3 :: a4 :: a5 :: a6 :: a7 :: a8 :: a9 :: a10 :: a11 :: a12 :: a13 :: a14 :: a15 :: a16 :: a17 :: a18 :: a19 :: a20 :: a21 :: sx :: r) fun d e => bindT (.s 22) d e n := st_bw (by simp)
theorem sb23 {a0 a1 a2 a3 a4 a5 a6 a7 a8 a9 a10 a11 a12 a13 a14 a15 a16 a17 a18 a19 a20 a21 a22 : Sl} : setV 23 (.bw m) (a0 :: a1 :: a2 :: a3 :: a4 :: a5 :: a6 :: a7 :: a8 :: a9 :: a10 :: a11 :: a12 :: a13 :: a14 :: a15 :: a16 :: a17 :: a18 :: a19 :: a20 :: a21 :: a22 :: sx :: r) n = Vl.give (.bw m) (a0 :: a1 :: a2 :: a3 :: a4 :: a5 :: a6 :: a7 :: a8 :: a9 :: a10 :: a11 :: a12 :: a13 :: a14 :: a15 :: a16 :: a17 :: a18 :: a19 :: a20 :: a21 :: a22 :: sx :: r) fun d e => bindT (.s 23) d e n := st_bw (by simp)
theorem bd0 : bindT (.s 0) x (sx :: r) n = n (.fz x :: r) := propext ⟨fun h => h.2, fun h => ⟨by simp, h⟩⟩
theorem bd1 {a0 : Sl} : bindT (.s 1) x (a0 :: sx :: r) n = n (a0 :: .fz x :: r) := propext ⟨fun h => h.2, fun h => ⟨by simp, h⟩⟩
theorem bd2 {a0 a1 : Sl} : bindT (.s 2) x (a0 :: a1 :: sx :: r) n = n (a0 :: a1 :: .fz x :: r) := propext ⟨fun h => h.2, fun h => ⟨by simp, h⟩⟩
theorem bd3 {a0 a1 a2 : Sl} : bindT (.s 3) x (a0 :: a1 :: a2 :: sx :: r) n = n (a0 :: a1 :: a2 :: .fz x :: r) := propext ⟨fun h => h.2, fun h => ⟨by simp, h⟩⟩
theorem bd4 {a0 a1 a2 a3 : Sl} : bindT (.s 4) x (a0 :: a1 :: a2 :: a3 :: sx :: r) n = n (a0 :: a1 :: a2 :: a3 :: .fz x :: r) := propext ⟨fun h => h.2, fun h => ⟨by simp, h⟩⟩
theorem bd5 {a0 a1 a2 a3 a4 : Sl} : bindT (.s 5) x (a0 :: a1 :: a2 :: a3 :: a4 :: sx :: r) n = n (a0 :: a1 :: a2 :: a3 :: a4 :: .fz x :: r) := propext ⟨fun h => h.2, fun h => ⟨by simp, h⟩⟩
theorem bd6 {a0 a1 a2 a3 a4 a5 : Sl} : bindT (.s 6) x (a0 :: a1 :: a2 :: a3 :: a4 :: a5 :: sx :: r) n = n (a0 :: a1 :: a2 :: a3 :: a4 :: a5 :: .fz x :: r) := propext ⟨fun h => h.2, fun h => ⟨by simp, h⟩⟩
theorem bd7 {a0 a1 a2 a3 a4 a5 a6 : Sl} : bindT (.s 7) x (a0 :: a1 :: a2 :: a3 :: a4 :: a5 :: a6 :: sx :: r) n = n (a0 :: a1 :: a2 :: a3 :: a4 :: a5 :: a6 :: .fz x :: r) := propext ⟨fun h => h.2, fun h => ⟨by simp, h⟩⟩
theorem bd8 {a0 a1 a2 a3 a4 a5 a6 a7 : Sl} : bindT (.s 8) x (a0 :: a1 :: a2 :: a3 :: a4 :: a5 :: a6 :: a7 :: sx :: r) n = n (a0 :: a1 :: a2 :: a3 :: a4 :: a5 :: a6 :: a7 :: .fz x :: r) := propext ⟨fun h => h.2, fun h => ⟨by simp, h⟩⟩
theorem bd9 {a0 a1 a2 a3 a4 a5 a6 a7 a8 : Sl} : bindT (.s 9) x (a0 :: a1 :: a2 :: a3 :: a4 :: a5 :: a6 :: a7 :: a8 :: sx :: r) n = n (a0 :: a1 :: a2 :: a3 :: a4 :: a5 :: a6 :: a7 :: a8 :: .fz x :: r) := propext ⟨fun h => h.2, fun h => ⟨by simp, h⟩⟩
theorem bd10 {a0 a1 a2 a3 a4 a5 a6 a7 a8 a9 : Sl} : bindT (.s 10) x (a0 :: a1 :: a2 :: a3 :: a4 :: a5 :: a6 :: a7 :: a8 :: a9 :: sx :: r) n = n (a0 :: a1 :: a2 :: a3 :: a4 :: a5 :: a6 :: a7 :: a8 :: a9 :: .fz x :: r) := propext ⟨fun h => h.2, fun h => ⟨by simp, h⟩⟩
theorem bd11 {a0 a1 a2 a3 a4 a5 a6 a7 a8 a9 a10 : Sl} : bindT (.s 11) x (a0 :: a1 :: a2 :: a3 :: a4 :: a5 :: a6 :: a7 :: a8 :: a9 :: a10 :: sx :: r) n = n (a0 :: a1 :: a2 :: a3 :: a4 :: a5 :: a6 :: a7 :: a8 :: a9 :: a10 :: .fz x :: r) := propext ⟨fun h => h.2, fun h => ⟨by simp, h⟩⟩
theorem bd12 {a0 a1 a2 a3 a4 a5 a6 a7 a8 a9 a10 a11 : Sl} : bindT (.s 12) x (a0 :: a1 :: a2 :: a3 :: a4 :: a5 :: a6 :: a7 :: a8 :: a9 :: a10 :: a11 :: sx :: r) n = n (a0 :: a1 :: a2 :: a3 :: a4 :: a5 :: a6 :: a7 :: a8 :: a9 :: a10 :: a11 :: .fz x :: r) := propext ⟨fun h => h.2, fun h => ⟨by simp, h⟩⟩
theorem bd13 {a0 a1 a2 a3 a4 a5 a6 a7 a8 a9 a10 a11 a12 : Sl} : bindT (.s 13) x (a0 :: a1 :: a2 :: a3 :: a4 :: a5 :: a6 :: a7 :: a8 :: a9 :: a10 :: a11 :: a12 :: sx :: r) n = n (a0 :: a1 :: a2 :: a3 :: a4 :: a5 :: a6 :: a7 :: a8 :: a9 :: a10 :: a11 :: a12 :: .fz x :: r) := propext ⟨fun h => h.2, fun h => ⟨by simp, h⟩⟩
theorem bd14 {a0 a1 a2 a3 a4 a5 a6 a7 a8 a9 a10 a11 a12 a13 : Sl} : bindT (.s 14) x (a0 :: a1 :: a2 :: a3 :: a4 :: a5 :: a6 :: a7 :: a8 :: a9 :: a10 :: a11 :: a12 :: a13 :: sx :: r) n = n (a0 :: a1 :: a2 :: a3 :: a4 :: a5 :: a6 :: a7 :: a8 :: a9 :: a10 :: a11 :: a12 :: a13 :: .fz x :: r) := propext ⟨fun h => h.2, fun h => ⟨by simp, h⟩⟩
theorem bd15 {a0 a1 a2 a3 a4 a5 a6 a7 a8 a9 a10 a11 a12 a13 a14 : Sl} : bindT (.s 15) x (a0 :: a1 :: a2 :: a3 :: a4 :: a5 :: a6 :: a7 :: a8 :: a9 :: a10 :: a11 :: a12 :: a13 :: a14 :: sx :: r) n = n (a0 :: a1 :: a2 :: a3 :: a4 :: a5 :: a6 :: a7 :: a8 :: a9 :: a10 :: a11 :: a12 :: a13 :: a14 :: .fz x :: r) := propext ⟨fun h => h.2, fun h => ⟨by simp, h⟩⟩
theorem bd16 {a0 a1 a2 a3 a4 a5 a6 a7 a8 a9 a10 a11 a12 a13 a14 a15 : Sl} : bindT (.s 16) x (a0 :: a1 :: a2 :: a3 :: a4 :: a5 :: a6 :: a7 :: a8 :: a9 :: a10 :: a11 :: a12 :: a13 :: a14 :: a15 :: sx :: r) n = n (a0 :: a1 :: a2 :: a3 :: a4 :: a5 :: a6 :: a7 :: a8 :: a9 :: a10 :: a11 :: a12 :: a13 :: a14 :: a15 :: .fz x :: r) := propext ⟨fun h => h.2, fun h => ⟨by simp, h⟩⟩
theorem bd17 {a0 a1 a2 a3 a4 a5 a6 a7 a8 a9 a10 a11 a12 a13 a14 a15 a16 : Sl} : bindT (.s 17) x (a0 :: a1 :: a2 :: a3 :: a4 :: a5 :: a6 :: a7 :: a8 :: a9 :: a10 :: a11 :: a12 :: a13 :: a14 :: a15 :: a16 :: sx :: r) n = n (a0 :: a1 :: a2 :: a3 :: a4 :: a5 :: a6 :: a7 :: a8 :: a9 :: a10 :: a11 :: a12 :: a13 :: a14 :: a15 :: a16 :: .fz x :: r) := propext ⟨fun h => h.2, fun h => ⟨by simp, h⟩⟩
theorem bd18 {a0 a1 a2 a3 a4 a5 a6 a7 a8 a9 a10 a11 a12 a13 a14 a15 a16 a17 : Sl} : bindT (.s 18) x (a0 :: a1 :: a2 :: a3 :: a4 :: a5 :: a6 :: a7 :: a8 :: a9 :: a10 :: a11 :: a12 :: a13 :: a14 :: a15 :: a16 :: a17 :: sx :: r) n = n (a0 :: a1 :: a2 :: a3 :: a4 :: a5 :: a6 :: a7 :: a8 :: a9 :: a10 :: a11 :: a12 :: a13 :: a14 :: a15 :: a16 :: a17 :: .fz x :: r) := propext ⟨fun h => h.2, fun h => ⟨by simp, h⟩⟩
theorem bd19 {a0 a1 a2 a3 a4 a5 a6 a7 a8 a9 a10 a11 a12 a13 a14 a15 a16 a17 a18 : Sl} : bindT (.s 19) x (a0 :: a1 :: a2 :: a3 :: a4 :: a5 :: a6 :: a7 :: a8 :: a9 :: a10 :: a11 :: a12 :: a13 :: a14 :: a15 :: a16 :: a17 :: a18 :: sx :: r) n = n (a0 :: a1 :: a2 :: a3 :: a4 :: a5 :: a6 :: a7 :: a8 :: a9 :: a10 :: a11 :: a12 :: a13 :: a14 :: a15 :: a16 :: a17 :: a18 :: .fz x :: r) := propext ⟨fun h => h.2, fun h => ⟨by simp, h⟩⟩
theorem bd20 {a0 a1 a2 a3 a4 a5 a6 a7 a8 a9 a10 a11 a12 a13 a14 a15 a16 a17 a18 a19 : Sl} : bindT (.s 20) x (a0 :: a1 :: a2 :: a3 :: a4 :: a5 :: a6 :: a7 :: a8 :: a9 :: a10 :: a11 :: a12 :: a13 :: a14 :: a15 :: a16 :: a17 :: a18 :: a19 :: sx :: r) n = n (a0 :: a1 :: a2 :: a3 :: a4 :: a5 :: a6 :: a7 :: a8 :: a9 :: a10 :: a11 :: a12 :: a13 :: a14 :: a15 :: a16 :: a17 :: a18 :: a19 :: .fz x :: r) := propext ⟨fun h => h.2, fun h => ⟨by simp, h⟩⟩
theorem bd21 {a0 a1 a2 a3 a4 a5 a6 a7 a8 a9 a10 a11 a12 a13 a14 a15 a16 a17 a18 a19 a20 : Sl} : bindT (.s 21) x (a0 :: a1 :: a2 :: a3 :: a4 :: a5 :: a6 :: a7 :: a8 :: a9 :: a10 :: a11 :: a12 :: a13 :: a14 :: a15 :: a16 :: a17 :: a18 :: a19 :: a20 :: sx :: r) n = n (a0 :: a1 :: a2 :: a3 :: a4 :: a5 :: a6 :: a7 :: a8 :: a9 :: a10 :: a11 :: a12 :: a13 :: a14 :: a15 :: a16 :: a17 :: a18 :: a19 :: a20 :: .fz x :: r) := propext ⟨fun h => h.2, fun h => ⟨by simp, h⟩⟩
theorem bd22 {a0 a1 a2 a3 a4 a5 a6 a7 a8 a9 a10 a11 a12 a13 a14 a15 a16 a17 a18 a19 a20 a21 : Sl} : bindT (.s 22) x (a0 :: a1 :: a2 :: a3 :: a4 :: a5 :: a6 :: a7 :: a8 :: a9 :: a10 :: a11 :: a12 :: a13 :: a14 :: a15 :: a16 :: a17 :: a18 :: a19 :: a20 :: a21 :: sx :: r) n = n (a0 :: a1 :: a2 :: a3 :: a4 :: a5 :: a6 :: a7 :: a8 :: a9 :: a10 :: a11 :: a12 :: a13 :: a14 :: a15 :: a16 :: a17 :: a18 :: a19 :: a20 :: a21 :: .fz x :: r) := propext ⟨fun h => h.2, fun h => ⟨by simp, h⟩⟩
theorem bd23 {a0 a1 a2 a3 a4 a5 a6 a7 a8 a9 a10 a11 a12 a13 a14 a15 a16 a17 a18 a19 a20 a21 a22 : Sl} : bindT (.s 23) x (a0 :: a1 :: a2 :: a3 :: a4 :: a5 :: a6 :: a7 :: a8 :: a9 :: a10 :: a11 :: a12 :: a13 :: a14 :: a15 :: a16 :: a17 :: a18 :: a19 :: a20 :: a21 :: a22 :: sx :: r) n = n (a0 :: a1 :: a2 :: a3 :: a4 :: a5 :: a6 :: a7 :: a8 :: a9 :: a10 :: a11 :: a12 :: a13 :: a14 :: a15 :: a16 :: a17 :: a18 :: a19 :: a20 :: a21 :: a22 :: .fz x :: r) := propext ⟨fun h => h.2, fun h => ⟨by simp, h⟩⟩
theorem bd_cons : bindT (.cons tg th) (.tuple (x :: xs)) env n = bindT tg x env fun e => bindT th (.tuple xs) e n := rfl
theorem bd_nil : bindT .nil (.tuple []) env n = n env := propext ⟨fun h => h.2, fun h => ⟨rfl, h⟩⟩
theorem bd_t : bindT (.t tg) x env n = bindT tg x env n := rfl
theorem ow0 : ownL 0 (.ow (.list xs) :: r) = True := eq_true ⟨xs, rfl⟩
theorem ow1 {a0 : Sl} : ownL 1 (a0 :: .ow (.list xs) :: r) = True := eq_true ⟨xs, rfl⟩
theorem ow2 {a0 a1 : Sl} : ownL 2 (a0 :: a1 :: .ow (.list xs) :: r) = True := eq_true ⟨xs, rfl⟩
theorem ow3 {a0 a1 a2 : Sl} : ownL 3 (a0 :: a1 :: a2 :: .ow (.list xs) :: r) = True := eq_true ⟨xs, rfl⟩
theorem ow4 {a0 a1 a2 a3 : Sl} : ownL 4 (a0 :: a1 :: a2 :: a3 :: .ow (.list xs) :: r) = True := eq_true ⟨xs, rfl⟩
theorem ow5 {a0 a1 a2 a3 a4 : Sl} : ownL 5 (a0 :: a1 :: a2 :: a3 :: a4 :: .ow (.list xs) :: r) = True := eq_true ⟨xs, rfl⟩
theorem ow6 {a0 a1 a2 a3 a4 a5 : Sl} : ownL 6 (a0 :: a1 :: a2 :: a3 :: a4 :: a5 :: .ow (.list xs) :: r) = True := eq_true ⟨xs, rfl⟩
theorem ow7 {a0 a1 a2 a3 a4 a5 a6 : Sl} : ownL 7 (a0 :: a1 :: a2 :: a3 :: a4 :: a5 :: a6 :: .ow (.list xs) :: r) = True := eq_true ⟨xs, rfl⟩
theorem ow8 {a0 a1 a2 a3 a4 a5 a6 a7 : Sl} : ownL 8 (a0 :: a1 :: a2 :: a3 :: a4 :: a5 :: a6 :: a7 :: .ow (.list xs) :: r) = True := eq_true ⟨xs, rfl⟩
theorem ow9 {a0 a1 a2 a3 a4 a5 a6 a7 a8 : Sl} : ownL 9 (a0 :: a1 :: a2 :: a3 :: a4 :: a5 :: a6 :: a7 :: a8 :: .ow (.list xs) :: r) = True := eq_true ⟨xs, rfl⟩
theorem ow10 {a0 a1 a2 a3 a4 a5 a6 a7 a8 a9 : Sl} : ownL 10 (a0 :: a1 :: a2 :: a3 :: a4 :: a5 :: a6 :: a7 :: a8 :: a9 :: .ow (.list xs) :: r) = True := eq_true ⟨xs, rfl⟩
theorem ow11 {a0 a1 a2 a3 a4 a5 a6 a7 a8 a9 a10 : Sl} : ownL 11 (a0 :: a1 :: a2 :: a3 :: a4 :: a5 :: a6 :: a7 :: a8 :: a9 :: a10 :: .ow (.list xs) :: r) = True := eq_true ⟨xs, rfl⟩
theorem ow12 {a0 a1 a2 a3 a4 a5 a6 a7 a8 a9 a10 a11 : Sl} : ownL 12 (a0 :: a1 :: a2 :: a3 :: a4 :: a5 :: a6 :: a7 :: a8 :: a9 :: a10 :: a11 :: .ow (.list xs) :: r) = True := eq_true ⟨xs, rfl⟩
theorem ow13 {a0 a1 a2 a3 a4 a5 a6 a7 a8 a9 a10 a11 a12 : Sl} : ownL 13 (a0 :: a1 :: a2 :: a3 :: a4 :: a5 :: a6 :: a7 :: a8 :: a9 :: a10 :: a11 :: a12 :: .ow (.list xs) :: r) = True := eq_true ⟨xs, rfl⟩
theorem ow14 {a0 a1 a2 a3 a4 a5 a6 a7 a8 a9 a10 a11 a12 a13 : Sl} : ownL 14 (a0 :: a1 :: a2 :: a3 :: a4 :: a5 :: a6 :: a7 :: a8 :: a9 :: a10 :: a11 :: a12 :: a13 :: .ow (.list xs) :: r) = True := eq_true ⟨xs, rfl⟩
theorem ow15 {a0 a1 a2 a3 a4 a5 a6 a7 a8 a9 a10 a11 a12 a13 a14 : Sl} : ownL 15 (a0 :: a1 :: a2 :: a3 :: a4 :: a5 :: a6 :: a7 :: a8 :: a9 :: a10 :: a11 :: a12 :: a13 :: a14 :: .ow (.list xs) :: r) = True := eq_true ⟨xs, rfl⟩
theorem ow16 {a0 a1 a2 a3 a4 a5 a6 a7 a8 a9 a10 a11 a12 a13 a14 a15 : Sl} : ownL 16 (a0 :: a1 :: a2 :: a3 :: a4 :: a5 :: a6 :: a7 :: a8 :: a9 :: a10 :: a11 :: a12 :: a13 :: a14 :: a15 :: .ow (.list xs) :: r) = True := eq_true ⟨xs, rfl⟩
theorem ow17 {a0 a1 a2 a3 a4 a5 a6 a7 a8 a9 a10 a11 a12 a13 a14 a15 a16 : Sl} : ownL 17 (a0 :: a1 :: a2 :: a3 :: a4 :: a5 :: a6 :: a7 :: a8 :: a9 :: a10 :: a11 :: a12 :: a13 :: a14 :: a15 :: a16 :: .ow (.list xs) :: r) = True := eq_true ⟨xs, rfl⟩
theorem ow18 {a0 a1 a2 a3 a4 a5 a6 a7 a8 a9 a10 a11 a12 a13 a14 a15 a16 a17 : Sl} : ownL 18 (a0 :: a1 :: a2 :: a3 :: a4 :: a5 :: a6 :: a7 :: a8 :: a9 :: a10 :: a11 :: a12 :: a13 :: a14 :: a15 :: a16 :: a17 :: .ow (.list xs) :: r) = True := eq_true ⟨xs, rfl⟩
theorem ow19 {a0 a1 a2 a3 a4 a5 a6 a7 a8 a9 a10 a11 a12 a13 a14 a15 a16 a17 a18 : Sl} : ownL 19 (a0 :: a1 :: a2 :: a3 :: a4 :: a5 :: a6 :: a7 :: a8 :: a9 :: a10 :: a11 :: a12 :: a13 :: a14 :: a15 :: a16 :: a17 :: a18 :: .ow (.list xs) :: r) = True := eq_true ⟨xs, rfl⟩
theorem ow20 {a0 a1 a2 a3 a4 a5 a6 a7 a8 a9 a10 a11 a12 a13 a14 a15 a16 a17 a18 a19 : Sl} : ownL 20 (a0 :: a1 :: a2 :: a3 :: a4 :: a5 :: a6 :: a7 :: a8 :: a9 :: a10 :: a11 :: a12 :: a13 :: a14 :: a15 :: a16 :: a17 :: a18 :: a19 :: .ow (.list xs) :: r) = True := eq_true ⟨xs, rfl⟩
theorem ow21 {a0 a1 a2 a3 a4 a5 a6 a7 a8 a9 a10 a11 a12 a13 a14 a15 a16 a17 a18 a19 a20 : Sl} : ownL 21 (a0 :: a1 :: a2 :: a3 :: a4 :: a5 :: a6 :: a7 :: a8 :: a9 :: a10 :: a11 :: a12 :: a13 :: a14 :: a15 :: a16 :: a17 :: a18 :: a19 :: a20 :: .ow (.list xs) :: r) = True := eq_true ⟨xs, rfl⟩
theorem ow22 {a0 a1 a2 a3 a4 a5 a6 a7 a8 a9 a10 a11 a12 a13 a14 a15 a16 a17 a18 a19 a20 a21 : Sl} : ownL 22 (a0 :: a1 :: a2 :: a3 :: a4 :: a5 :: a6 :: a7 :: a8 :: a9 :: a10 :: a11 :: a12 :: a13 :: a14 :: a15 :: a16 :: a17 :: a18 :: a19 :: a20 :: a21 :: .ow (.list xs) :: r) = True := eq_true ⟨xs, rfl⟩
theorem ow23 {a0 a1 a2 a3 a4 a5 a6 a7 a8 a9 a10 a11 a12 a13 a14 a15 a16 a17 a18 a19 a20 a21 a22 : Sl} : ownL 23 (a0 :: a1 :: a2 :: a3 :: a4 :: a5 :: a6 :: a7 :: a8 :: a9 :: a10 :: a11 :: a12 :: a13 :: a14 :: a15 :: a16 :: a17 :: a18 :: a19 :: a20 :: a21 :: a22 :: .ow (.list xs) :: r) = True := eq_true ⟨xs, rfl⟩
theorem ap0 : appEnd 0 y (.ow (.list xs) :: r) n = (xs.length < 16777216 ∧ n (.ow (.list (xs ++ [y])) :: r)) := rfl
theorem ap1 {a0 : Sl} : appEnd 1 y (a0 :: .ow (.list xs) :: r) n = (xs.length < 16777216 ∧ n (a0 :: .ow (.list (xs ++ [y])) :: r)) := rfl
theorem ap2 {a0 a1 : Sl} : appEnd 2 y (a0 :: a1 :: .ow (.list xs) :: r) n = (xs.length < 16777216 ∧ n (a0 :: a1 :: .ow (.list (xs ++ [y])) :: r)) := rfl
theorem ap3 {a0 a1 a2 : Sl} : appEnd 3 y (a0 :: a1 :: a2 :: .ow (.list xs) :: r) n = (xs.length < 16777216 ∧ n (a0 :: a1 :: a2 :: .ow (.list (xs ++ [y])) :: r)) := rfl
theorem ap4 {a0 a1 a2 a3 : Sl} : appEnd 4 y (a0 :: a1 :: a2 :: a3 :: .ow (.list xs) :: r) n = (xs.length < 16777216 ∧ n (a0 :: a1 :: a2 :: a3 :: .ow (.list (xs ++ [y])) :: r)) := rfl
theorem ap5 {a0 a1 a2 a3 a4 : Sl} : appEnd 5 y (a0 :: a1 :: a2 :: a3 :: a4 :: .ow (.list xs) :: r) n = (xs.length < 16777216 ∧ n (a0 :: a1 :: a2 :: a3 :: a4 :: .ow (.list (xs ++ [y])) :: r)) := rfl
theorem ap6 {a0 a1 a2 a3 a4 a5 : Sl} : appEnd 6 y (a0 :: a1 :: a2 :: a3 :: a4 :: a5 :: .ow (.list xs) :: r) n = (xs.length < 16777216 ∧ n (a0 :: a1 :: a2 :: a3 :: a4 :: a5 :: .ow (.list (xs ++ [y])) :: r)) := rfl
theorem ap7 {a0 a1 a2 a3 a4 a5 a6 : Sl} : appEnd 7 y (a0 :: a1 :: a2 :: a3 :: a4 :: a5 :: a6 :: .ow (.list xs) :: r) n = (xs.length < 16777216 ∧ n (a0 :: a1 :: a2 :: a3 :: a4 :: a5 :: a6 :: .ow (.list (xs ++ [y])) :: r)) := rfl
theorem ap8 {a0 a1 a2 a3 a4 a5 a6 a7 : Sl} : appEnd 8 y (a0 :: a1 :: a2 :: a3 :: a4 :: a5 :: a6 :: a7 :: .ow (.list xs) :: r) n = (xs.length < 16777216 ∧ n (a0 :: a1 :: a2 :: a3 :: a4 :: a5 :: a6 :: a7 :: .ow (.list (xs ++ [y])) :: r)) := rfl
theorem ap9 {a0 a1 a2 a3 a4 a5 a6 a7 a8 : Sl} : appEnd 9 y (a0 :: a1 :: a2 :: a3 :: a4 :: a5 :: a6 :: a7 :: a8 :: .ow (.list xs) :: r) n = (xs.length < 16777216 ∧ n (a0 :: a1 :: a2 :: a3 :: a4 :: a5 :: a6 :: a7 :: a8 :: .ow (.list (xs ++ [y])) :: r)) := rfl
theorem ap10 {a0 a1 a2 a3 a4 a5 a6 a7 a8 a9 : Sl} : appEnd 10 y (a0 :: a1 :: a2 :: a3 :: a4 :: a5 :: a6 :: a7 :: a8 :: a9 :: .ow (.list xs) :: r) n = (xs.length < 16777216 ∧ n (a0 :: a1 :: a2 :: a3 :: a4 :: a5 :: a6 :: a7 :: a8 :: a9 :: .ow (.list (xs ++ [y])) :: r)) := rfl
theorem ap11 {a0 a1 a2 a3 a4 a5 a6 a7 a8 a9 a10 : Sl} : appEnd 11 y (a0 :: a1 :: a2 :: a3 :: a4 :: a5 :: a6 :: a7 :: a8 :: a9 :: a10 :: .ow (.list xs) :: r) n = (xs.length < 16777216 ∧ n (a0 :: a1 :: a2 :: a3 :: a4 :: a5 :: a6 :: a7 :: a8 :: a9 :: a10 :: .ow (.list (xs ++ [y])) :: r)) := rfl
theorem ap12 {a0 a1 a2 a3 a4 a5 a6 a7 a8 a9 a10 a11 : Sl} : appEnd 12 y (a0 :: a1 :: a2 :: a3 :: a4 :: a5 :: a6 :: a7 :: a8 :: a9 :: a10 :: a11 :: .ow (.list xs) :: r) n = (xs.length < 16777216 ∧ n (a0 :: a1 :: a2 :: a3 :: a4 :: a5 :: a6 :: a7 :: a8 :: a9 :: a10 :: a11 :: .ow (.list (xs ++ [y])) :: r)) := rfl
theorem ap13 {a0 a1 a2 a3 a4 a5 a6 a7 a8 a9 a10 a11 a12 : Sl} : appEnd 13 y (a0 :: a1 :: a2 :: a3 :: a4 :: a5 :: a6 :: a7 :: a8 :: a9 :: a10 :: a11 :: a12 :: .ow (.list xs) :: r) n = (xs.length < 16777216 ∧ n (a0 :: a1 :: a2 :: a3 :: a4 :: a5 :: a6 :: a7 :: a8 :: a9 :: a10 :: a11 :: a12 :: .ow (.list (xs ++ [y])) :: r)) := rfl
theorem ap14 {a0 a1 a2 a3 a4 a5 a6 a7 a8 a9 a10 a11 a12 a13 : Sl} : appEnd 14 y (a0 :: a1 :: a2 :: a3 :: a4 :: a5 :: a6 :: a7 :: a8 :: a9 :: a10 :: a11 :: a12 :: a13 :: .ow (.list xs) :: r) n = (xs.length < 16777216 ∧ n (a0 :: a1 :: a2 :: a3 :: a4 :: a5 :: a6 :: a7 :: a8 :: a9 :: a10 :: a11 :: a12 :: a13 :: .ow (.list (xs ++ [y])) :: r)) := rfl
theorem ap15 {a0 a1 a2 a3 a4 a5 a6 a7 a8 a9 a10 a11 a12 a13 a14 : Sl} : appEnd 15 y (a0 :: a1 :: a2 :: a3 :: a4 :: a5 :: a6 :: a7 :: a8 :: a9 :: a10 :: a11 :: a12 :: a13 :: a14 :: .ow (.list xs) :: r) n = (xs.length < 16777216 ∧ n (a0 :: a1 :: a2 :: a3 :: a4 :: a5 :: a6 :: a7 :: a8 :: a9 :: a10 :: a11 :: a12 :: a13 :: a14 :: .ow (.list (xs ++ [y])) :: r)) := rfl
theorem ap16 {a0 a1 a2 a3 a4 a5 a6 a7 a8 a9 a10 a11 a12 a13 a14 a15 : Sl} : appEnd 16 y (a0 :: a1 :: a2 :: a3 :: a4 :: a5 :: a6 :: a7 :: a8 :: a9 :: a10 :: a11 :: a12 :: a13 :: a14 :: a15 :: .ow (.list xs) :: r) n = (xs.length < 16777216 ∧ n (a0 :: a1 :: a2 :: a3 :: a4 :: a5 :: a6 :: a7 :: a8 :: a9 :: a10 :: a11 :: a12 :: a13 :: a14 :: a15 :: .ow (.list (xs ++ [y])) :: r)) := rfl
theorem ap17 {a0 a1 a2 a3 a4 a5 a6 a7 a8 a9 a10 a11 a12 a13 a14 a15 a16 : Sl} : appEnd 17 y (a0 :: a1 :: a2 :: a3 :: a4 :: a5 :: a6 :: a7 :: a8 :: a9 :: a10 :: a11 :: a12 :: a13 :: a14 :: a15 :: a16 :: .ow (.list xs) :: r) n = (xs.length < 16777216 ∧ n (a0 :: a1 :: a2 :: a3 :: a4 :: a5 :: a6 :: a7 :: a8 :: a9 :: a10 :: a11 :: a12 :: a13 :: a14 :: a15 :: a16 :: .ow (.list (xs ++ [y])) :: r)) := rfl
theorem ap18 {a0 a1 a2 a3 a4 a5 a6 a7 a8 a9 a10 a11 a12 a13 a14 a15 a16 a17 : Sl} : appEnd 18 y (a0 :: a1 :: a2 :: a3 :: a4 :: a5 :: a6 :: a7 :: a8 :: a9 :: a10 :: a11 :: a12 :: a13 :: a14 :: a15 :: a16 :: a17 :: .ow (.list xs) :: r) n = (xs.length < 16777216 ∧ n (a0 :: a1 :: a2 :: a3 :: a4 :: a5 :: a6 :: a7 :: a8 :: a9 :: a10 :: a11 :: a12 :: a13 :: a14 :: a15 :: a16 :: a17 :: .ow (.list (xs ++ [y])) :: r)) := rfl
theorem ap19 {a0 a1 a2 a3 a4 a5 a6 a7 a8 a9 a10 a11 a12 a13 a14 a15 a16 a17 a18 : Sl} : appEnd 19 y (a0 :: a1 :: a2 :: a3 :: a4 :: a5 :: a6 :: a7 :: a8 :: a9 :: a10 :: a11 :: a12 :: a13 :: a14 :: a15 :: a16 :: a17 :: a18 :: .ow (.list xs) :: r) n = (xs.length < 16777216 ∧ n (a0 :: a1 :: a2 :: a3 :: a4 :: a5 :: a6 :: a7 :: a8 :: a9 :: a10 :: a11 :: a12 :: a13 :: a14 :: a15 :: a16 :: a17 :: a18 :: .ow (.list (xs ++ [y])) :: r)) := rfl
theorem ap20 {a0 a1 a2 a3 a4 a5 a6 a7 a8 a9 a10 a11 a12 a13 a14 a15 a16 a17 a18 a19 : Sl} : appEnd 20 y (a0 :: a1 :: a2 :: a3 :: a4 :: a5 :: a6 :: a7 :: a8 :: a9 :: a10 :: a11 :: a12 :: a13 :: a14 :: a15 :: a16 :: a17 :: a18 :: a19 :: .ow (.list xs) :: r) n = (xs.length < 16777216 ∧ n (a0 :: a1 :: a2 :: a3 :: a4 :: a5 :: a6 :: a7 :: a8 :: a9 :: a10 :: a11 :: a12 :: a13 :: a14 :: a15 :: a16 :: a17 :: a18 :: a19 :: .ow (.list (xs ++ [y])) :: r)) := rfl
theorem ap21 {a0 a1 a2 a3 a4 a5 a6 a7 a8 a9 a10 a11 a12 a13 a14 a15 a16 a17 a18 a19 a20 : Sl} : appEnd 21 y (a0 :: a1 :: a2 :: a3 :: a4 :: a5 :: a6 :: a7 :: a8 :: a9 :: a10 :: a11 :: a12 :: a13 :: a14 :: a15 :: a16 :: a17 :: a18 :: a19 :: a20 :: .ow (.list xs) :: r) n = (xs.length < 16777216 ∧ n (a0 :: a1 :: a2 :: a3 :: a4 :: a5 :: a6 :: a7 :: a8 :: a9 :: a10 :: a11 :: a12 :: a13 :: a14 :: a15 :: a16 :: a17 :: a18 :: a19 :: a20 :: .ow (.list (xs ++ [y])) :: r)) := rfl
theorem ap22 {a0 a1 a2 a3 a4 a5 a6 a7 a8 a9 a10 a11 a12 a13 a14 a15 a16 a17 a18 a19 a20 a21 : Sl} : appEnd 22 y (a0 :: a1 :: a2 :: a3 :: a4 :: a5 :: a6 :: a7 :: a8 :: a9 :: a10 :: a11 :: a12 :: a13 :: a14 :: a15 :: a16 :: a17 :: a18 :: a19 :: a20 :: a21 :: .ow (.list xs) :: r) n = (xs.length < 16777216 ∧ n (a0 :: a1 :: a2 :: a3 :: a4 :: a5 :: a6 :: a7 :: a8 :: a9 :: a10 :: a11 :: a12 :: a13 :: a14 :: a15 :: a16 :: a17 :: a18 :: a19 :: a20 :: a21 :: .ow (.list (xs ++ [y])) :: r)) := rfl
theorem ap23 {a0 a1 a2 a3 a4 a5 a6 a7 a8 a9 a10 a11 a12 a13 a14 a15 a16 a17 a18 a19 a20 a21 a22 : Sl} : appEnd 23 y (a0 :: a1 :: a2 :: a3 :: a4 :: a5 :: a6 :: a7 :: a8 :: a9 :: a10 :: a11 :: a12 :: a13 :: a14 :: a15 :: a16 :: a17 :: a18 :: a19 :: a20 :: a21 :: a22 :: .ow (.list xs) :: r) n = (xs.length < 16777216 ∧ n (a0 :: a1 :: a2 :: a3 :: a4 :: a5 :: a6 :: a7 :: a8 :: a9 :: a10 :: a11 :: a12 :: a13 :: a14 :: a15 :: a16 :: a17 :: a18 :: a19 :: a20 :: a21 :: a22 :: .ow (.list (xs ++ [y])) :: r)) := rfl
theorem ex0 : extEnd 0 (.list ys) (.ow (.list xs) :: r) n = (Fits (xs.length + ys.length) ∧ n (.ow (.list (xs ++ ys)) :: r)) := rfl
theorem ex1 {a0 : Sl} : extEnd 1 (.list ys) (a0 :: .ow (.list xs) :: r) n = (Fits (xs.length + ys.length) ∧ n (a0 :: .ow (.list (xs ++ ys)) :: r)) := rfl
theorem ex2 {a0 a1 : Sl} : extEnd 2 (.list ys) (a0 :: a1 :: .ow (.list xs) :: r) n = (Fits (xs.length + ys.length) ∧ n (a0 :: a1 :: .ow (.list (xs ++ ys)) :: r)) := rfl
theorem ex3 {a0 a1 a2 : Sl} : extEnd 3 (.list ys) (a0 :: a1 :: a2 :: .ow (.list xs) :: r) n = (Fits (xs.length + ys.length) ∧ n (a0 :: a1 :: a2 :: .ow (.list (xs ++ ys)) :: r)) := rfl
theorem ex4 {a0 a1 a2 a3 : Sl} : extEnd 4 (.list ys) (a0 :: a1 :: a2 :: a3 :: .ow (.list xs) :: r) n = (Fits (xs.length + ys.length) ∧ n (a0 :: a1 :: a2 :: a3 :: .ow (.list (xs ++ ys)) :: r)) := rfl
theorem ex5 {a0 a1 a2 a3 a4 : Sl} : extEnd 5 (.list ys) (a0 :: a1 :: a2 :: a3 :: a4 :: .ow (.list xs) :: r) n = (Fits (xs.length + ys.length) ∧ n (a0 :: a1 :: a2 :: a3 :: a4 :: .ow (.list (xs ++ ys)) :: r)) := rfl
theorem ex6 {a0 a1 a2 a3 a4 a5 : Sl} : extEnd 6 (.list ys) (a0 :: a1 :: a2 :: a3 :: a4 :: a5 :: .ow (.list xs) :: r) n = (Fits (xs.length + ys.length) ∧ n (a0 :: a1 :: a2 :: a3 :: a4 :: a5 :: .ow (.list (xs ++ ys)) :: r)) := rfl
theorem ex7 {a0 a1 a2 a3 a4 a5 a6 : Sl} : extEnd 7 (.list ys) (a0 :: a1 :: a2 :: a3 :: a4 :: a5 :: a6 :: .ow (.list xs) :: r) n = (Fits (xs.length + ys.length) ∧ n (a0 :: a1 :: a2 :: a3 :: a4 :: a5 :: a6 :: .ow (.list (xs ++ ys)) :: r)) := rfl
theorem ex8 {a0 a1 a2 a3 a4 a5 a6 a7 : Sl} : extEnd 8 (.list ys) (a0 :: a1 :: a2 :: a3 :: a4 :: a5 :: a6 :: a7 :: .ow (.list xs) :: r) n = (Fits (xs.length + ys.length) ∧ n (a0 :: a1 :: a2 :: a3 :: a4 :: a5 :: a6 :: a7 :: .ow (.list (xs ++ ys)) :: r)) := rfl
theorem ex9 {a0 a1 a2 a3 a4 a5 a6 a7 a8 : Sl} : extEnd 9 (.list ys) (a0 :: a1 :: a2 :: a3 :: a4 :: a5 :: a6 :: a7 :: a8 :: .ow (.list xs) :: r) n = (Fits (xs.length + ys.length) ∧ n (a0 :: a1 :: a2 :: a3 :: a4 :: a5 :: a6 :: a7 :: a8 :: .ow (.list (xs ++ ys)) :: r)) := rfl
theorem ex10 {a0 a1 a2 a3 a4 a5 a6 a7 a8 a9 : Sl} : extEnd 10 (.list ys) (a0 :: a1 :: a2 :: a3 :: a4 :: a5 :: a6 :: a7 :: a8 :: a9 :: .ow (.list xs) :: r) n = (Fits (xs.length + ys.length) ∧ n (a0 :: a1 :: a2 :: a3 :: a4 :: a5 :: a6 :: a7 :: a8 :: a9 :: .ow (.list (xs ++ ys)) :: r)) := rfl
theorem ex11 {a0 a1 a2 a3 a4 a5 a6 a7 a8 a9 a10 : Sl} : extEnd 11 (.list ys) (a0 :: a1 :: a2 :: a3 :: a4 :: a5 :: a6 :: a7 :: a8 :: a9 :: a10 :: .ow (.list xs) :: r) n = (Fits (xs.length + ys.length) ∧ n (a0 :: a1 :: a2 :: a3 :: a4 :: a5 :: a6 :: a7 :: a8 :: a9 :: a10 :: .ow (.list (xs ++ ys)) :: r)) := rfl
theorem ex12 {a0 a1 a2 a3 a4 a5 a6 a7 a8 a9 a10 a11 : Sl} : extEnd 12 (.list ys) (a0 :: a1 :: a2 :: a3 :: a4 :: a5 :: a6 :: a7 :: a8 :: a9 :: a10 :: a11 :: .ow (.list xs) :: r) n = (Fits (xs.length + ys.length) ∧ n (a0 :: a1 :: a2 :: a3 :: a4 :: a5 :: a6 :: a7 :: a8 :: a9 :: a10 :: a11 :: .ow (.list (xs ++ ys)) :: r)) := rfl
theorem ex13 {a0 a1 a2 a3 a4 a5 a6 a7 a8 a9 a10 a11 a12 : Sl} : extEnd 13 (.list ys) (a0 :: a1 :: a2 :: a3 :: a4 :: a5 :: a6 :: a7 :: a8 :: a9 :: a10 :: a11 :: a12 :: .ow (.list xs) :: r) n = (Fits (xs.length + ys.length) ∧ n (a0 :: a1 :: a2 :: a3 :: a4 :: a5 :: a6 :: a7 :: a8 :: a9 :: a10 :: a11 :: a12 :: .ow (.list (xs ++ ys)) :: r)) := rfl
theorem ex14 {a0 a1 a2 a3 a4 a5 a6 a7 a8 a9 a10 a11 a12 a13 : Sl} : extEnd 14 (.list ys) (a0 :: a1 :: a2 :: a3 :: a4 :: a5 :: a6 :: a7 :: a8 :: a9 :: a10 :: a11 :: a12 :: a13 :: .ow (.list xs) :: r) n = (Fits (xs.length + ys.length) ∧ n (a0 :: a1 :: a2 :: a3 :: a4 :: a5 :: a6 :: a7 :: a8 :: a9 :: a10 :: a11 :: a12 :: a13 :: .ow (.list (xs ++ ys)) :: r)) := rfl
theorem ex15 {a0 a1 a2 a3 a4 a5 a6 a7 a8 a9 a10 a11 a12 a13 a14 : Sl} : extEnd 15 (.list ys) (a0 :: a1 :: a2 :: a3 :: a4 :: a5 :: a6 :: a7 :: a8 :: a9 :: a10 :: a11 :: a12 :: a13 :: a14 :: .ow (.list xs) :: r) n = (Fits (xs.length + ys.length) ∧ n (a0 :: a1 :: a2 :: a3 :: a4 :: a5 :: a6 :: a7 :: a8 :: a9 :: a10 :: a11 :: a12 :: a13 :: a14 :: .ow (.list (xs ++ ys)) :: r)) := rfl
theorem ex16 {a0 a1 a2 a3 a4 a5 a6 a7 a8 a9 a10 a11 a12 a13 a14 a15 : Sl} : extEnd 16 (.list ys) (a0 :: a1 :: a2 :: a3 :: a4 :: a5 :: a6 :: a7 :: a8 :: a9 :: a10 :: a11 :: a12 :: a13 :: a14 :: a15 :: .ow (.list xs) :: r) n = (Fits (xs.length + ys.length) ∧ n (a0 :: a1 :: a2 :: a3 :: a4 :: a5 :: a6 :: a7 :: a8 :: a9 :: a10 :: a11 :: a12 :: a13 :: a14 :: a15 :: .ow (.list (xs ++ ys)) :: r)) := rfl
theorem ex17 {a0 a1 a2 a3 a4 a5 a6 a7 a8 a9 a10 a11 a12 a13 a14 a15 a16 : Sl} : extEnd 17 (.list ys) (a0 :: a1 :: a2 :: a3 :: a4 :: a5 :: a6 :: a7 :: a8 :: a9 :: a10 :: a11 :: a12 :: a13 :: a14 :: a15 :: a16 :: .ow (.list xs) :: r) n = (Fits (xs.length + ys.length) ∧ n (a0 :: a1 :: a2 :: a3 :: a4 :: a5 :: a6 :: a7 :: a8 :: a9 :: a10 :: a11 :: a12 :: a13 :: a14 :: a15 :: a16 :: .ow (.list (xs ++ ys)) :: r)) := rfl
theorem ex18 {a0 a1 a2 a3 a4 a5 a6 a7 a8 a9 a10 a11 a12 a13 a14 a15 a16 a17 : Sl} : extEnd 18 (.list ys) (a0 :: a1 :: a2 :: a3 :: a4 :: a5 :: a6 :: a7 :: a8 :: a9 :: a10 :: a11 :: a12 :: a13 :: a14 :: a15 :: a16 :: a17 :: .ow (.list xs) :: r) n = (Fits (xs.length + ys.length) ∧ n (a0 :: a1 :: a2 :: a3 :: a4 :: a5 :: a6 :: a7 :: a8 :: a9 :: a10 :: a11 :: a12 :: a13 :: a14 :: a15 :: a16 :: a17 :: .ow (.list (xs ++ ys)) :: r)) := rfl
theorem ex19 {a0 a1 a2 a3 a4 a5 a6 a7 a8 a9 a10 a11 a12 a13 a14 a15 a16 a17 a18 : Sl} : extEnd 19 (.list ys) (a0 :: a1 :: a2 :: a3 :: a4 :: a5 :: a6 :: a7 :: a8 :: a9 :: a10 :: a11 :: a12 :: a13 :: a14 :: a15 :: a16 :: a17 :: a18 :: .ow (.list xs) :: r) n = (Fits (xs.length + ys.length) ∧ n (a0 :: a1 :: a2 :: a3 :: a4 :: a5 :: a6 :: a7 :: a8 :: a9 :: a10 :: a11 :: a12 :: a13 :: a14 :: a15 :: a16 :: a17 :: a18 :: .ow (.list (xs ++ ys)) :: r)) := rfl
theorem ex20 {a0 a1 a2 a3 a4 a5 a6 a7 a8 a9 a10 a11 a12 a13 a14 a15 a16 a17 a18 a19 : Sl} : extEnd 20 (.list ys) (a0 :: a1 :: a2 :: a3 :: a4 :: a5 :: a6 :: a7 :: a8 :: a9 :: a10 :: a11 :: a12 :: a13 :: a14 :: a15 :: a16 :: a17 :: a18 :: a19 :: .ow (.list xs) :: r) n = (Fits (xs.length + ys.length) ∧ n (a0 :: a1 :: a2 :: a3 :: a4 :: a5 :: a6 :: a7 :: a8 :: a9 :: a10 :: a11 :: a12 :: a13 :: a14 :: a15 :: a16 :: a17 :: a18 :: a19 :: .ow (.list (xs ++ ys)) :: r)) := rfl
theorem ex21 {a0 a1 a2 a3 a4 a5 a6 a7 a8 a9 a10 a11 a12 a13 a14 a15 a16 a17 a18 a19 a20 : Sl} : extEnd 21 (.list ys) (a0 :: a1 :: a2 :: a3 :: a4 :: a5 :: a6 :: a7 :: a8 :: a9 :: a10 :: a11 :: a12 :: a13 :: a14 :: a15 :: a16 :: a17 :: a18 :: a19 :: a20 :: .ow (.list xs) :: r) n = (Fits (xs.length + ys.length) ∧ n (a0 :: a1 :: a2 :: a3 :: a4 :: a5 :: a6 :: a7 :: a8 :: a9 :: a10 :: a11 :: a12 :: a13 :: a14 :: a15 :: a16 :: a17 :: a18 :: a19 :: a20 :: .ow (.list (xs ++ ys)) :: r)) := rfl
theorem ex22 {a0 a1 a2 a3 a4 a5 a6 a7 a8 a9 a10 a11 a12 a13 a14 a15 a16 a17 a18 a19 a20 a21 : Sl} : extEnd 22 (.list ys) (a0 :: a1 :: a2 :: a3 :: a4 :: a5 :: a6 :: a7 :: a8 :: a9 :: a10 :: a11 :: a12 :: a13 :: a14 :: a15 :: a16 :: a17 :: a18 :: a19 :: a20 :: a21 :: .ow (.list xs) :: r) n = (Fits (xs.length + ys.length) ∧ n (a0 :: a1 :: a2 :: a3 :: a4 :: a5 :: a6 :: a7 :: a8 :: a9 :: a10 :: a11 :: a12 :: a13 :: a14 :: a15 :: a16 :: a17 :: a18 :: a19 :: a20 :: a21 :: .ow (.list (xs ++ ys)) :: r)) := rfl
theorem ex23 {a0 a1 a2 a3 a4 a5 a6 a7 a8 a9 a10 a11 a12 a13 a14 a15 a16 a17 a18 a19 a20 a21 a22 : Sl} : extEnd 23 (.list ys) (a0 :: a1 :: a2 :: a3 :: a4 :: a5 :: a6 :: a7 :: a8 :: a9 :: a10 :: a11 :: a12 :: a13 :: a14 :: a15 :: a16 :: a17 :: a18 :: a19 :: a20 :: a21 :: a22 :: .ow (.list xs) :: r) n = (Fits (xs.length + ys.length) ∧ n (a0 :: a1 :: a2 :: a3 :: a4 :: a5 :: a6 :: a7 :: a8 :: a9 :: a10 :: a11 :: a12 :: a13 :: a14 :: a15 :: a16 :: a17 :: a18 :: a19 :: a20 :: a21 :: a22 :: .ow (.list (xs ++ ys)) :: r)) := rfl
theorem exT0 : extEnd 0 (.tuple ys) (.ow (.list xs) :: r) n = (Fits (xs.length + ys.length) ∧ n (.ow (.list (xs ++ ys)) :: r)) := rfl
theorem exT1 {a0 : Sl} : extEnd 1 (.tuple ys) (a0 :: .ow (.list xs) :: r) n = (Fits (xs.length + ys.length) ∧ n (a0 :: .ow (.list (xs ++ ys)) :: r)) := rfl
theorem exT2 {a0 a1 : Sl} : extEnd 2 (.tuple ys) (a0 :: a1 :: .ow (.list xs) :: r) n = (Fits (xs.length + ys.length) ∧ n (a0 :: a1 :: .ow (.list (xs ++ ys)) :: r)) := rfl
theorem exT3 {a0 a1 a2 : Sl} : extEnd 3 (.tuple ys) (a0 :: a1 :: a2 :: .ow (.list xs) :: r) n = (Fits (xs.length + ys.length) ∧ n (a0 :: a1 :: a2 :: .ow (.list (xs ++ ys)) :: r)) := rfl
theorem exT4 {a0 a1 a2 a3 : Sl} : extEnd 4 (.tuple ys) (a0 :: a1 :: a2 :: a3 :: .ow (.list xs) :: r) n = (Fits (xs.length + ys.length) ∧ n (a0 :: a1 :: a2 :: a3 :: .ow (.list (xs ++ ys)) :: r)) := rfl
theorem exT5 {a0 a1 a2 a3 a4 : Sl} : extEnd 5 (.tuple ys) (a0 :: a1 :: a2 :: a3 :: a4 :: .ow (.list xs) :: r) n = (Fits (xs.length + ys.length) ∧ n (a0 :: a1 :: a2 :: a3 :: a4 :: .ow (.list (xs ++ ys)) :: r)) := rfl
theorem exT6 {a0 a1 a2 a3 a4 a5 : Sl} : extEnd 6 (.tuple ys) (a0 :: a1 :: a2 :: a3 :: a4 :: a5 :: .ow (.list xs) :: r) n = (Fits (xs.length + ys.length) ∧ n (a0 :: a1 :: a2 :: a3 :: a4 :: a5 :: .ow (.list (xs ++ ys)) :: r)) := rfl
theorem exT7 {a0 a1 a2 a3 a4 a5 a6 : Sl} : extEnd 7 (.tuple ys) (a0 :: a1 :: a2 :: a3 :: a4 :: a5 :: a6 :: .ow (.list xs) :: r) n = (Fits (xs.length + ys.length) ∧ n (a0 :: a1 :: a2 :: a3 :: a4 :: a5 :: a6 :: .ow (.list (xs ++ ys)) :: r)) := rfl
theorem exT8 {a0 a1 a2 a3 a4 a5 a6 a7 : Sl} : extEnd 8 (.tuple ys) (a0 :: a1 :: a2 :: a3 :: a4 :: a5 :: a6 :: a7 :: .ow (.list xs) :: r) n = (Fits (xs.length + ys.length) ∧ n (a0 :: a1 :: a2 :: a3 :: a4 :: a5 :: a6 :: a7 :: .ow (.list (xs ++ ys)) :: r)) := rfl
theorem exT9 {a0 a1 a2 a3 a4 a5 a6 a7 a8 : Sl} : extEnd 9 (.tuple ys) (a0 :: a1 :: a2 :: a3 :: a4 :: a5 :: a6 :: a7 :: a8 :: .ow (.list xs) :: r) n = (Fits (xs.length + ys.length) ∧ n (a0 :: a1 :: a2 :: a3 :: a4 :: a5 :: a6 :: a7 :: a8 :: .ow (.list (xs ++ ys)) :: r)) := rfl
theorem exT10 {a0 a1 a2 a3 a4 a5 a6 a7 a8 a9 : Sl} : extEnd 10 (.tuple ys) (a0 :: a1 :: a2 :: a3 :: a4 :: a5 :: a6 :: a7 :: a8 :: a9 :: .ow (.list xs) :: r) n = (Fits (xs.length + ys.length) ∧ n (a0 :: a1 :: a2 :: a3 :: a4 :: a5 :: a6 :: a7 :: a8 :: a9 :: .ow (.list (xs ++ ys)) :: r)) := rfl
theorem exT11 {a0 a1 a2 a3 a4 a5 a6 a7 a8 a9 a10 : Sl} : extEnd 11 (.tuple ys) (a0 :: a1 :: a2 :: a3 :: a4 :: a5 :: a6 :: a7 :: a8 :: a9 :: a10 :: .ow (.list xs) :: r) n = (Fits (xs.length + ys.length) ∧ n (a0 :: a1 :: a2 :: a3 :: a4 :: a5 :: a6 :: a7 :: a8 :: a9 :: a10 :: .ow (.list (xs ++ ys)) :: r)) := rfl
theorem exT12 {a0 a1 a2 a3 a4 a5 a6 a7 a8 a9 a10 a11 : Sl} : extEnd 12 (.tuple ys) (a0 :: a1 :: a2 :: a3 :: a4 :: a5 :: a6 :: a7 :: a8 :: a9 :: a10 :: a11 :: .ow (.list xs) :: r) n = (Fits (xs.length + ys.length) ∧ n (a0 :: a1 :: a2 :: a3 :: a4 :: a5 :: a6 :: a7 :: a8 :: a9 :: a10 :: a11 :: .ow (.list (xs ++ ys)) :: r)) := rfl
theorem exT13 {a0 a1 a2 a3 a4 a5 a6 a7 a8 a9 a10 a11 a12 : Sl} : extEnd 13 (.tuple ys) (a0 :: a1 :: a2 :: a3 :: a4 :: a5 :: a6 :: a7 :: a8 :: a9 :: a10 :: a11 :: a12 :: .ow (.list xs) :: r) n = (Fits (xs.length + ys.length) ∧ n (a0 :: a1 :: a2 :: a3 :: a4 :: a5 :: a6 :: a7 :: a8 :: a9 :: a10 :: a11 :: a12 :: .ow (.list (xs ++ ys)) :: r)) := rfl
theorem exT14 {a0 a1 a2 a3 a4 a5 a6 a7 a8 a9 a10 a11 a12 a13 : Sl} : extEnd 14 (.tuple ys) (a0 :: a1 :: a2 :: a3 :: a4 :: a5 :: a6 :: a7 :: a8 :: a9 :: a10 :: a11 :: a12 :: a13 :: .ow (.list xs) :: r) n = (Fits (xs.length + ys.length) ∧ n (a0 :: a1 :: a2 :: a3 :: a4 :: a5 :: a6 :: a7 :: a8 :: a9 :: a10 :: a11 :: a12 :: a13 :: .ow (.list (xs ++ ys)) :: r)) := rfl
theorem exT15 {a0 a1 a2 a3 a4 a5 a6 a7 a8 a9 a10 a11 a12 a13 a14 : Sl} : extEnd 15 (.tuple ys) (a0 :: a1 :: a2 :: a3 :: a4 :: a5 :: a6 :: a7 :: a8 :: a9 :: a10 :: a11 :: a12 :: a13 :: a14 :: .ow (.list xs) :: r) n = (Fits (xs.length + ys.length) ∧ n (a0 :: a1 :: a2 :: a3 :: a4 :: a5 :: a6 :: a7 :: a8 :: a9 :: a10 :: a11 :: a12 :: a13 :: a14 :: .ow (.list (xs ++ ys)) :: r)) := rfl
theorem exT16 {a0 a1 a2 a3 a4 a5 a6 a7 a8 a9 a10 a11 a12 a13 a14 a15 : Sl} : extEnd 16 (.tuple ys) (a0 :: a1 :: a2 :: a3 :: a4 :: a5 :: a6 :: a7 :: a8 :: a9 :: a10 :: a11 :: a12 :: a13 :: a14 :: a15 :: .ow (.list xs) :: r) n = (Fits (xs.length + ys.length) ∧ n (a0 :: a1 :: a2 :: a3 :: a4 :: a5 :: a6 :: a7 :: a8 :: a9 :: a10 :: a11 :: a12 :: a13 :: a14 :: a15 :: .ow (.list (xs ++ ys)) :: r)) := rfl
theorem exT17 {a0 a1 a2 a3 a4 a5 a6 a7 a8 a9 a10 a11 a12 a13 a14 a15 a16 : Sl} : extEnd 17 (.tuple ys) (a0 :: a1 :: a2 :: a3 :: a4 :: a5 :: a6 :: a7 :: a8 :: a9 :: a10 :: a11 :: a12 :: a13 :: a14 :: a15 :: a16 :: .ow (.list xs) :: r) n = (Fits (xs.length + ys.length) ∧ n (a0 :: a1 :: a2 :: a3 :: a4 :: a5 :: a6 :: a7 :: a8 :: a9 :: a10 :: a11 :: a12 :: a13 :: a14 :: a15 :: a16 :: .ow (.list (xs ++ ys)) :: r)) := rfl
theorem exT18 {a0 a1 a2 a3 a4 a5 a6 a7 a8 a9 a10 a11 a12 a13 a14 a15 a16 a17 : Sl} : extEnd 18 (.tuple ys) (a0 :: a1 :: a2 :: a3 :: a4 :: a5 :: a6 :: a7 :: a8 :: a9 :: a10 :: a11 :: a12 :: a13 :: a14 :: a15 :: a16 :: a17 :: .ow (.list xs) :: r) n = (Fits (xs.length + ys.length) ∧ n (a0 :: a1 :: a2 :: a3 :: a4 :: a5 :: a6 :: a7 :: a8 :: a9 :: a10 :: a11 :: a12 :: a13 :: a14 :: a15 :: a16 :: a17 :: .ow (.list (xs ++ ys)) :: r)) := rfl
theorem exT19 {a0 a1 a2 a3 a4 a5 a6 a7 a8 a9 a10 a11 a12 a13 a14 a15 a16 a17 a18 : Sl} : extEnd 19 (.tuple ys) (a0 :: a1 :: a2 :: a3 :: a4 :: a5 :: a6 :: a7 :: a8 :: a9 :: a10 :: a11 :: a12 :: a13 :: a14 :: a15 :: a16 :: a17 :: a18 :: .ow (.list xs) :: r) n = (Fits (xs.length + ys.length) ∧ n (a0 :: a1 :: a2 :: a3 :: a4 :: a5 :: a6 :: a7 :: a8 :: a9 :: a10 :: a11 :: a12 :: a13 :: a14 :: a15 :: a16 :: a17 :: a18 :: .ow (.list (xs ++ ys)) :: r)) := rfl
theorem exT20 {a0 a1 a2 a3 a4 a5 a6 a7 a8 a9 a10 a11 a12 a13 a14 a15 a16 a17 a18 a19 : Sl} : extEnd 20 (.tuple ys) (a0 :: a1 :: a2 :: a3 :: a4 :: a5 :: a6 :: a7 :: a8 :: a9 :: a10 :: a11 :: a12 :: a13 :: a14 :: a15 :: a16 :: a17 :: a18 :: a19 :: .ow (.list xs) :: r) n = (Fits (xs.length + ys.length) ∧ n (a0 :: a1 :: a2 :: a3 :: a4 :: a5 :: a6 :: a7 :: a8 :: a9 :: a10 :: a11 :: a12 :: a13 :: a14 :: a15 :: a16 :: a17 :: a18 :: a19 :: .ow (.list (xs ++ ys)) :: r)) := rfl
theorem exT21 {a0 a1 a2 a3 a4 a5 a6 a7 a8 a9 a10 a11 a12 a13 a14 a15 a16 a17 a18 a19 a20 : Sl} : extEnd 21 (.tuple ys) (a0 :: a1 :: a2 :: a3 :: a4 :: a5 :: a6 :: a7 :: a8 :: a9 :: a10 :: a11 :: a12 :: a13 :: a14 :: a15 :: a16 :: a17 :: a18 :: a19 :: a20 :: .ow (.list xs) :: r) n = (Fits (xs.length + ys.length) ∧ n (a0 :: a1 :: a2 :: a3 :: a4 :: a5 :: a6 :: a7 :: a8 :: a9 :: a10 :: a11 :: a12 :: a13 :: a14 :: a15 :: a16 :: a17 :: a18 :: a19 :: a20 :: .ow (.list (xs ++ ys)) :: r)) := rfl
theorem exT22 {a0 a1 a2 a3 a4 a5 a6 a7 a8 a9 a10 a11 a12 a13 a14 a15 a16 a17 a18 a19 a20 a21 : Sl} : extEnd 22 (.tuple ys) (a0 :: a1 :: a2 :: a3 :: a4 :: a5 :: a6 :: a7 :: a8 :: a9 :: a10 :: a11 :: a12 :: a13 :: a14 :: a15 :: a16 :: a17 :: a18 :: a19 :: a20 :: a21 :: .ow (.list xs) :: r) n = (Fits (xs.length + ys.length) ∧ n (a0 :: a1 :: a2 :: a3 :: a4 :: a5 :: a6 :: a7 :: a8 :: a9 :: a10 :: a11 :: a12 :: a13 :: a14 :: a15 :: a16 :: a17 :: a18 :: a19 :: a20 :: a21 :: .ow (.list (xs ++ ys)) :: r)) := rfl
theorem exT23 {a0 a1 a2 a3 a4 a5 a6 a7 a8 a9 a10 a11 a12 a13 a14 a15 a16 a17 a18 a19 a20 a21 a22 : Sl} : extEnd 23 (.tuple ys) (a0 :: a1 :: a2 :: a3 :: a4 :: a5 :: a6 :: a7 :: a8 :: a9 :: a10 :: a11 :: a12 :: a13 :: a14 :: a15 :: a16 :: a17 :: a18 :: a19 :: a20 :: a21 :: a22 :: .ow (.list xs) :: r) n = (Fits (xs.length + ys.length) ∧ n (a0 :: a1 :: a2 :: a3 :: a4 :: a5 :: a6 :: a7 :: a8 :: a9 :: a10 :: a11 :: a12 :: a13 :: a14 :: a15 :: a16 :: a17 :: a18 :: a19 :: a20 :: a21 :: a22 :: .ow (.list (xs ++ ys)) :: r)) := rfl
theorem so0 : stoEnd 0 y j (.ow (.list xs) :: r) n = ∃ m, ixN xs.length j = some m ∧ n (.ow (.list (xs.set m y)) :: r) := rfl
theorem so1 {a0 : Sl} : stoEnd 1 y j (a0 :: .ow (.list xs) :: r) n = ∃ m, ixN xs.length j = some m ∧ n (a0 :: .ow (.list (xs.set m y)) :: r) := rfl
theorem so2 {a0 a1 : Sl} : stoEnd 2 y j (a0 :: a1 :: .ow (.list xs) :: r) n = ∃ m, ixN xs.length j = some m ∧ n (a0 :: a1 :: .ow (.list (xs.set m y)) :: r) := rfl
theorem so3 {a0 a1 a2 : Sl} : stoEnd 3 y j (a0 :: a1 :: a2 :: .ow (.list xs) :: r) n = ∃ m, ixN xs.length j = some m ∧ n (a0 :: a1 :: a2 :: .ow (.list (xs.set m y)) :: r) := rfl
theorem so4 {a0 a1 a2 a3 : Sl} : stoEnd 4 y j (a0 :: a1 :: a2 :: a3 :: .ow (.list xs) :: r) n = ∃ m, ixN xs.length j = some m ∧ n (a0 :: a1 :: a2 :: a3 :: .ow (.list (xs.set m y)) :: r) := rfl
theorem so5 {a0 a1 a2 a3 a4 : Sl} : stoEnd 5 y j (a0 :: a1 :: a2 :: a3 :: a4 :: .ow (.list xs) :: r) n = ∃ m, ixN xs.length j = some m ∧ n (a0 :: a1 :: a2 :: a3 :: a4 :: .ow (.list (xs.set m y)) :: r) := rfl
theorem so6 {a0 a1 a2 a3 a4 a5 : Sl} : stoEnd 6 y j (a0 :: a1 :: a2 :: a3 :: a4 :: a5 :: .ow (.list xs) :: r) n = ∃ m, ixN xs.length j = some m ∧ n (a0 :: a1 :: a2 :: a3 :: a4 :: a5 :: .ow (.list (xs.set m y)) :: r) := rfl
theorem so7 {a0 a1 a2 a3 a4 a5 a6 : Sl} : stoEnd 7 y j (a0 :: a1 :: a2 :: a3 :: a4 :: a5 :: a6 :: .ow (.list xs) :: r) n = ∃ m, ixN xs.length j = some m ∧ n (a0 :: a1 :: a2 :: a3 :: a4 :: a5 :: a6 :: .ow (.list (xs.set m y)) :: r) := rfl
theorem so8 {a0 a1 a2 a3 a4 a5 a6 a7 : Sl} : stoEnd 8 y j (a0 :: a1 :: a2 :: a3 :: a4 :: a5 :: a6 :: a7 :: .ow (.list xs) :: r) n = ∃ m, ixN xs.length j = some m ∧ n (a0 :: a1 :: a2 :: a3 :: a4 :: a5 :: a6 :: a7 :: .ow (.list (xs.set m y)) :: r) := rfl
theorem so9 {a0 a1 a2 a3 a4 a5 a6 a7 a8 : Sl} : stoEnd 9 y j (a0 :: a1 :: a2 :: a3 :: a4 :: a5 :: a6 :: a7 :: a8 :: .ow (.list xs) :: r) n = ∃ m, ixN xs.length j = some m ∧ n (a0 :: a1 :: a2 :: a3 :: a4 :: a5 :: a6 :: a7 :: a8 :: .ow (.list (xs.set m y)) :: r) := rfl
theorem so10 {a0 a1 a2 a3 a4 a5 a6 a7 a8 a9 : Sl} : stoEnd 10 y j (a0 :: a1 :: a2 :: a3 :: a4 :: a5 :: a6 :: a7 :: a8 :: a9 :: .ow (.list xs) :: r) n = ∃ m, ixN xs.length j = some m ∧ n (a0 :: a1 :: a2 :: a3 :: a4 :: a5 :: a6 :: a7 :: a8 :: a9 :: .ow (.list (xs.set m y)) :: r) := rfl
theorem so11 {a0 a1 a2 a3 a4 a5 a6 a7 a8 a9 a10 : Sl} : stoEnd 11 y j (a0 :: a1 :: a2 :: a3 :: a4 :: a5 :: a6 :: a7 :: a8 :: a9 :: a10 :: .ow (.list xs) :: r) n = ∃ m, ixN xs.length j = some m ∧ n (a0 :: a1 :: a2 :: a3 :: a4 :: a5 :: a6 :: a7 :: a8 :: a9 :: a10 :: .ow (.list (xs.set m y)) :: r) := rfl
theorem so12 {a0 a1 a2 a3 a4 a5 a6 a7 a8 a9 a10 a11 : Sl} : stoEnd 12 y j (a0 :: a1 :: a2 :: a3 :: a4 :: a5 :: a6 :: a7 :: a8 :: a9 :: a10 :: a11 :: .ow (.list xs) :: r) n = ∃ m, ixN xs.length j = some m ∧ n (a0 :: a1 :: a2 :: a3 :: a4 :: a5 :: a6 :: a7 :: a8 :: a9 :: a10 :: a11 :: .ow (.list (xs.set m y)) :: r) := rfl
theorem so13 {a0 a1 a2 a3 a4 a5 a6 a7 a8 a9 a10 a11 a12 : Sl} : stoEnd 13 y j (a0 :: a1 :: a2 :: a3 :: a4 :: a5 :: a6 :: a7 :: a8 :: a9 :: a10 :: a11 :: a12 :: .ow (.list xs) :: r) n = ∃ m, ixN xs.length j = some m ∧ n (a0 :: a1 :: a2 :: a3 :: a4 :: a5 :: a6 :: a7 :: a8 :: a9 :: a10 :: a11 :: a12 :: .ow (.list (xs.set m y)) :: r) := rfl
theorem so14 {a0 a1 a2 a3 a4 a5 a6 a7 a8 a9 a10 a11 a12 a13 : Sl} : stoEnd 14 y j (a0 :: a1 :: a2 :: a3 :: a4 :: a5 :: a6 :: a7 :: a8 :: a9 :: a10 :: a11 :: a12 :: a13 :: .ow (.list xs) :: r) n = ∃ m, ixN xs.length j = some m ∧ n (a0 :: a1 :: a2 :: a3 :: a4 :: a5 :: a6 :: a7 :: a8 :: a9 :: a10 :: a11 :: a12 :: a13 :: .ow (.list (xs.set m y)) :: r) := rfl
theorem so15 {a0 a1 a2 a3 a4 a5 a6 a7 a8 a9 a10 a11 a12 a13 a14 : Sl} : stoEnd 15 y j (a0 :: a1 :: a2 :: a3 :: a4 :: a5 :: a6 :: a7 :: a8 :: a9 :: a10 :: a11 :: a12 :: a13 :: a14 :: .ow (.list xs) :: r) n = ∃ m, ixN xs.length j = some m ∧ n (a0 :: a1 :: a2 :: a3 :: a4 :: a5 :: a6 :: a7 :: a8 :: a9 :: a10 :: a11 :: a12 :: a13 :: a14 :: .ow (.list (xs.set m y)) :: r) := rfl
theorem so16 {a0 a1 a2 a3 a4 a5 a6 a7 a8 a9 a10 a11 a12 a13 a14 a15 : Sl} : stoEnd 16 y j (a0 :: a1 :: a2 :: a3 :: a4 :: a5 :: a6 :: a7 :: a8 :: a9 :: a10 :: a11 :: a12 :: a13 :: a14 :: a15 :: .ow (.list xs) :: r) n = ∃ m, ixN xs.length j = some m ∧ n (a0 :: a1 :: a2 :: a3 :: a4 :: a5 :: a6 :: a7 :: a8 :: a9 :: a10 :: a11 :: a12 :: a13 :: a14 :: a15 :: .ow (.list (xs.set m y)) :: r) := rfl
theorem so17 {a0 a1 a2 a3 a4 a5 a6 a7 a8 a9 a10 a11 a12 a13 a14 a15 a16 : Sl} : stoEnd 17 y j (a0 :: a1 :: a2 :: a3 :: a4 :: a5 :: a6 :: a7 :: a8 :: a9 :: a10 :: a11 :: a12 :: a13 :: a14 :: a15 :: a16 :: .ow (.list xs) :: r) n = ∃ m, ixN xs.length j = some m ∧ n (a0 :: a1 :: a2 :: a3 :: a4 :: a5 :: a6 :: a7 :: a8 :: a9 :: a10 :: a11 :: a12 :: a13 :: a14 :: a15 :: a16 :: .ow (.list (xs.set m y)) :: r) := rfl
theorem so18 {a0 a1 a2 a3 a4 a5 a6 a7 a8 a9 a10 a11 a12 a13 a14 a15 a16 a17 : Sl} : stoEnd 18 y j (a0 :: a1 :: a2 :: a3 :: a4 :: a5 :: a6 :: a7 :: a8 :: a9 :: a10 :: a11 :: a12 :: a13 :: a14 :: a15 :: a16 :: a17 :: .ow (.list xs) :: r) n = ∃ m, ixN xs.length j = some m ∧ n (a0 :: a1 :: a2 :: a3 :: a4 :: a5 :: a6 :: a7 :: a8 :: a9 :: a10 :: a11 :: a12 :: a13 :: a14 :: a15 :: a16 :: a17 :: .ow (.list (xs.set m y)) :: r) := rfl
theorem so19 {a0 a1 a2 a3 a4 a5 a6 a7 a8 a9 a10 a11 a12 a13 a14 a15 a16 a17 a18 : Sl} : stoEnd 19 y j (a0 :: a1 :: a2 :: a3 :: a4 :: a5 :: a6 :: a7 :: a8 :: a9 :: a10 :: a11 :: a12 :: a13 :: a14 :: a15 :: a16 :: a17 :: a18 :: .ow (.list xs) :: r) n = ∃ m, ixN xs.length j = some m ∧ n (a0 :: a1 :: a2 :: a3 :: a4 :: a5 :: a6 :: a7 :: a8 :: a9 :: a10 :: a11 :: a12 :: a13 :: a14 :: a15 :: a16 :: a17 :: a18 :: .ow (.list (xs.set m y)) :: r) := rfl
theorem so20 {a0 a1 a2 a3 a4 a5 a6 a7 a8 a9 a10 a11 a12 a13 a14 a15 a16 a17 a18 a19 : Sl} : stoEnd 20 y j (a0 :: a1 :: a2 :: a3 :: a4 :: a5 :: a6 :: a7 :: a8 :: a9 :: a10 :: a11 :: a12 :: a13 :: a14 :: a15 :: a16 :: a17 :: a18 :: a19 :: .ow (.list xs) :: r) n = ∃ m, ixN xs.length j = some m ∧ n (a0 :: a1 :: a2 :: a3 :: a4 :: a5 :: a6 :: a7 :: a8 :: a9 :: a10 :: a11 :: a12 :: a13 :: a14 :: a15 :: a16 :: a17 :: a18 :: a19 :: .ow (.list (xs.set m y)) :: r) := rfl
theorem so21 {a0 a1 a2 a3 a4 a5 a6 a7 a8 a9 a10 a11 a12 a13 a14 a15 a16 a17 a18 a19 a20 : Sl} : stoEnd 21 y j (a0 :: a1 :: a2 :: a3 :: a4 :: a5 :: a6 :: a7 :: a8 :: a9 :: a10 :: a11 :: a12 :: a13 :: a14 :: a15 :: a16 :: a17 :: a18 :: a19 :: a20 :: .ow (.list xs) :: r) n = ∃ m, ixN xs.length j = some m ∧ n (a0 :: a1 :: a2 :: a3 :: a4 :: a5 :: a6 :: a7 :: a8 :: a9 :: a10 :: a11 :: a12 :: a13 :: a14 :: a15 :: a16 :: a17 :: a18 :: a19 :: a20 :: .ow (.list (xs.set m y)) :: r) := rfl
theorem so22 {a0 a1 a2 a3 a4 a5 a6 a7 a8 a9 a10 a11 a12 a13 a14 a15 a16 a17 a18 a19 a20 a21 : Sl} : stoEnd 22 y j (a0 :: a1 :: a2 :: a3 :: a4 :: a5 :: a6 :: a7 :: a8 :: a9 :: a10 :: a11 :: a12 :: a13 :: a14 :: a15 :: a16 :: a17 :: a18 :: a19 :: a20 :: a21 :: .ow (.list xs) :: r) n = ∃ m, ixN xs.length j = some m ∧ n (a0 :: a1 :: a2 :: a3 :: a4 :: a5 :: a6 :: a7 :: a8 :: a9 :: a10 :: a11 :: a12 :: a13 :: a14 :: a15 :: a16 :: a17 :: a18 :: a19 :: a20 :: a21 :: .ow (.list (xs.set m y)) :: r) := rfl
theorem so23 {a0 a1 a2 a3 a4 a5 a6 a7 a8 a9 a10 a11 a12 a13 a14 a15 a16 a17 a18 a19 a20 a21 a22 : Sl} : stoEnd 23 y j (a0 :: a1 :: a2 :: a3 :: a4 :: a5 :: a6 :: a7 :: a8 :: a9 :: a10 :: a11 :: a12 :: a13 :: a14 :: a15 :: a16 :: a17 :: a18 :: a19 :: a20 :: a21 :: a22 :: .ow (.list xs) :: r) n = ∃ m, ixN xs.length j = some m ∧ n (a0 :: a1 :: a2 :: a3 :: a4 :: a5 :: a6 :: a7 :: a8 :: a9 :: a10 :: a11 :: a12 :: a13 :: a14 :: a15 :: a16 :: a17 :: a18 :: a19 :: a20 :: a21 :: a22 :: .ow (.list (xs.set m y)) :: r) := rfl
theorem pp0 : pop0End 0 (.ow (.list xs) :: r) k = ∃ d, xs.getLast? = some d ∧ k (.fz d) (.ow (.list xs.dropLast) :: r) := rfl
theorem pp1 {a0 : Sl} : pop0End 1 (a0 :: .ow (.list xs) :: r) k = ∃ d, xs.getLast? = some d ∧ k (.fz d) (a0 :: .ow (.list xs.dropLast) :: r) := rfl
theorem pp2 {a0 a1 : Sl} : pop0End 2 (a0 :: a1 :: .ow (.list xs) :: r) k = ∃ d, xs.getLast? = some d ∧ k (.fz d) (a0 :: a1 :: .ow (.list xs.dropLast) :: r) := rfl
theorem pp3 {a0 a1 a2 : Sl} : pop0End 3 (a0 :: a1 :: a2 :: .ow (.list xs) :: r) k = ∃ d, xs.getLast? = some d ∧ k (.fz d) (a0 :: a1 :: a2 :: .ow (.list xs.dropLast) :: r) := rfl
theorem pp4 {a0 a1 a2 a3 : Sl} : pop0End 4 (a0 :: a1 :: a2 :: a3 :: .ow (.list xs) :: r) k = ∃ d, xs.getLast? = some d ∧ k (.fz d) (a0 :: a1 :: a2 :: a3 :: .ow (.list xs.dropLast) :: r) := rfl
theorem pp5 {a0 a1 a2 a3 a4 : Sl} : pop0End 5 (a0 :: a1 :: a2 :: a3 :: a4 :: .ow (.list xs) :: r) k = ∃ d, xs.getLast? = some d ∧ k (.fz d) (a0 :: a1 :: a2 :: a3 :: a4 :: .ow (.list xs.dropLast) :: r) := rfl
theorem pp6 {a0 a1 a2 a3 a4 a5 : Sl} : pop0End 6 (a0 :: a1 :: a2 :: a3 :: a4 :: a5 :: .ow (.list xs) :: r) k = ∃ d, xs.getLast? = some d ∧ k (.fz d) (a0 :: a1 :: a2 :: a3 :: a4 :: a5 :: .ow (.list xs.dropLast) :: r) := rfl
theorem pp7 {a0 a1 a2 a3 a4 a5 a6 : Sl} : pop0End 7 (a0 :: a1 :: a2 :: a3 :: a4 :: a5 :: a6 :: .ow (.list xs) :: r) k = ∃ d, xs.getLast? = some d ∧ k (.fz d) (a0 :: a1 :: a2 :: a3 :: a4 :: a5 :: a6 :: .ow (.list xs.dropLast) :: r) := rfl
theorem pp8 {a0 a1 a2 a3 a4 a5 a6 a7 : Sl} : pop0End 8 (a0 :: a1 :: a2 :: a3 :: a4 :: a5 :: a6 :: a7 :: .ow (.list xs) :: r) k = ∃ d, xs.getLast? = some d ∧ k (.fz d) (a0 :: a1 :: a2 :: a3 :: a4 :: a5 :: a6 :: a7 :: .ow (.list xs.dropLast) :: r) := rfl
theorem pp9 {a0 a1 a2 a3 a4 a5 a6 a7 a8 : Sl} : pop0End 9 (a0 :: a1 :: a2 :: a3 :: a4 :: a5 :: a6 :: a7 :: a8 :: .ow (.list xs) :: r) k = ∃ d, xs.getLast? = some d ∧ k (.fz d) (a0 :: a1 :: a2 :: a3 :: a4 :: a5 :: a6 :: a7 :: a8 :: .ow (.list xs.dropLast) :: r) := rfl
theorem pp10 {a0 a1 a2 a3 a4 a5 a6 a7 a8 a9 : Sl} : pop0End 10 (a0 :: a1 :: a2 :: a3 :: a4 :: a5 :: a6 :: a7 :: a8 :: a9 :: .ow (.list xs) :: r) k = ∃ d, xs.getLast? = some d ∧ k (.fz d) (a0 :: a1 :: a2 :: a3 :: a4 :: a5 :: a6 :: a7 :: a8 :: a9 :: .ow (.list xs.dropLast) :: r) := rfl
theorem pp11 {a0 a1 a2 a3 a4 a5 a6 a7 a8 a9 a10 : Sl} : pop0End 11 (a0 :: a1 :: a2 :: a3 :: a4 :: a5 :: a6 :: a7 :: a8 :: a9 :: a10 :: .ow (.list xs) :: r) k = ∃ d, xs.getLast? = some d ∧ k (.fz d) (a0 :: a1 :: a2 :: a3 :: a4 :: a5 :: a6 :: a7 :: a8 :: a9 :: a10 :: .ow (.list xs.dropLast) :: r) := rfl
theorem pp12 {a0 a1 a2 a3 a4 a5 a6 a7 a8 a9 a10 a11 : Sl} : pop0End 12 (a0 :: a1 :: a2 :: a3 :: a4 :: a5 :: a6 :: a7 :: a8 :: a9 :: a10 :: a11 :: .ow (.list xs) :: r) k = ∃ d, xs.getLast? = some d ∧ k (.fz d) (a0 :: a1 :: a2 :: a3 :: a4 :: a5 :: a6 :: a7 :: a8 :: a9 :: a10 :: a11 :: .ow (.list xs.dropLast) :: r) := rfl
theorem pp13 {a0 a1 a2 a3 a4 a5 a6 a7 a8 a9 a10 a11 a12 : Sl} : pop0End 13 (a0 :: a1 :: a2 :: a3 :: a4 :: a5 :: a6 :: a7 :: a8 :: a9 :: a10 :: a11 :: a12 :: .ow (.list xs) :: r) k = ∃ d, xs.getLast? = some d ∧ k (.fz d) (a0 :: a1 :: a2 :: a3 :: a4 :: a5 :: a6 :: a7 :: a8 :: a9 :: a10 :: a11 :: a12 :: .ow (.list xs.dropLast) :: r) := rfl
theorem pp14 {a0 a1 a2 a3 a4 a5 a6 a7 a8 a9 a10 a11 a12 a13 : Sl} : pop0End 14 (a0 :: a1 :: a2 :: a3 :: a4 :: a5 :: a6 :: a7 :: a8 :: a9 :: a10 :: a11 :: a12 :: a13 :: .ow (.list xs) :: r) k = ∃ d, xs.getLast? = some d ∧ k (.fz d) (a0 :: a1 :: a2 :: a3 :: a4 :: a5 :: a6 :: a7 :: a8 :: a9 :: a10 :: a11 :: a12 :: a13 :: .ow (.list xs.dropLast) :: r) := rfl
theorem pp15 {a0 a1 a2 a3 a4 a5 a6 a7 a8 a9 a10 a11 a12 a13 a14 : Sl} : pop0End 15 (a0 :: a1 :: a2 :: a3 :: a4 :: a5 :: a6 :: a7 :: a8 :: a9 :: a10 :: a11 :: a12 :: a13 :: a14 :: .ow (.list xs) :: r) k = ∃ d, xs.getLast? = some d ∧ k (.fz d) (a0 :: a1 :: a2 :: a3 :: a4 :: a5 :: a6 :: a7 :: a8 :: a9 :: a10 :: a11 :: a12 :: a13 :: a14 :: .ow (.list xs.dropLast) :: r) := rfl
theorem pp16 {a0 a1 a2 a3 a4 a5 a6 a7 a8 a9 a10 a11 a12 a13 a14 a15 : Sl} : pop0End 16 (a0 :: a1 :: a2 :: a3 :: a4 :: a5 :: a6 :: a7 :: a8 :: a9 :: a10 :: a11 :: a12 :: a13 :: a14 :: a15 :: .ow (.list xs) :: r) k = ∃ d, xs.getLast? = some d ∧ k (.fz d) (a0 :: a1 :: a2 :: a3 :: a4 :: a5 :: a6 :: a7 :: a8 :: a9 :: a10 :: a11 :: a12 :: a13 :: a14 :: a15 :: .ow (.list xs.dropLast) :: r) := rfl
theorem pp17 {a0 a1 a2 a3 a4 a5 a6 a7 a8 a9 a10 a11 a12 a13 a14 a15 a16 : Sl} : pop0End 17 (a0 :: a1 :: a2 :: a3 :: a4 :: a5 :: a6 :: a7 :: a8 :: a9 :: a10 :: a11 :: a12 :: a13 :: a14 :: a15 :: a16 :: .ow (.list xs) :: r) k = ∃ d, xs.getLast? = some d ∧ k (.fz d) (a0 :: a1 :: a2 :: a3 :: a4 :: a5 :: a6 :: a7 :: a8 :: a9 :: a10 :: a11 :: a12 :: a13 :: a14 :: a15 :: a16 :: .ow (.list xs.dropLast) :: r) := rfl
theorem pp18 {a0 a1 a2 a3 a4 a5 a6 a7 a8 a9 a10 a11 a12 a13 a14 a15 a16 a17 : Sl} : pop0End 18 (a0 :: a1 :: a2 :: a3 :: a4 :: a5 :: a6 :: a7 :: a8 :: a9 :: a10 :: a11 :: a12 :: a13 :: a14 :: a15 :: a16 :: a17 :: .ow (.list xs) :: r) k = ∃ d, xs.getLast? = some d ∧ k (.fz d) (a0 :: a1 :: a2 :: a3 :: a4 :: a5 :: a6 :: a7 :: a8 :: a9 :: a10 :: a11 :: a12 :: a13 :: a14 :: a15 :: a16 :: a17 :: .ow (.list xs.dropLast) :: r) := rfl
theorem pp19 {a0 a1 a2 a3 a4 a5 a6 a7 a8 a9 a10 a11 a12 a13 a14 a15 a16 a17 a18 : Sl} : pop0End 19 (a0 :: a1 :: a2 :: a3 :: a4 :: a5 :: a6 :: a7 :: a8 :: a9 :: a10 :: a11 :: a12 :: a13 :: a14 :: a15 :: a16 :: a17 :: a18 :: .ow (.list xs) :: r) k = ∃ d, xs.getLast? = some d ∧ k (.fz d) (a0 :: a1 :: a2 :: a3 :: a4 :: a5 :: a6 :: a7 :: a8 :: a9 :: a10 :: a11 :: a12 :: a13 :: a14 :: a15 :: a16 :: a17 :: a18 :: .ow (.list xs.dropLast) :: r) := rfl
theorem pp20 {a0 a1 a2 a3 a4 a5 a6 a7 a8 a9 a10 a11 a12 a13 a14 a15 a16 a17 a18 a19 : Sl} : pop0End 20 (a0 :: a1 :: a2 :: a3 :: a4 :: a5 :: a6 :: a7 :: a8 :: a9 :: a10 :: a11 :: a12 :: a13 :: a14 :: a15 :: a16 :: a17 :: a18 :: a19 :: .ow (.list xs) :: r) k = ∃ d, xs.getLast? = some d ∧ k (.fz d) (a0 :: a1 :: a2 :: a3 :: a4 :: a5 :: a6 :: a7 :: a8 :: a9 :: a10 :: a11 :: a12 :: a13 :: a14 :: a15 :: a16 :: a17 :: a18 :: a19 :: .ow (.list xs.dropLast) :: r) := rfl
theorem pp21 {a0 a1 a2 a3 a4 a5 a6 a7 a8 a9 a10 a11 a12 a13 a14 a15 a16 a17 a18 a19 a20 : Sl} : pop0End 21 (a0 :: a1 :: a2 :: a3 :: a4 :: a5 :: a6 :: a7 :: a8 :: a9 :: a10 :: a11 :: a12 :: a13 :: a14 :: a15 :: a16 :: a17 :: a18 :: a19 :: a20 :: .ow (.list xs) :: r) k = ∃ d, xs.getLast? = some d ∧ k (.fz d) (a0 :: a1 :: a2 :: a3 :: a4 :: a5 :: a6 :: a7 :: a8 :: a9 :: a10 :: a11 :: a12 :: a13 :: a14 :: a15 :: a16 :: a17 :: a18 :: a19 :: a20 :: .ow (.list xs.dropLast) :: r) := rfl
theorem pp22 {a0 a1 a2 a3 a4 a5 a6 a7 a8 a9 a10 a11 a12 a13 a14 a15 a16 a17 a18 a19 a20 a21 : Sl} : pop0End 22 (a0 :: a1 :: a2 :: a3 :: a4 :: a5 :: a6 :: a7 :: a8 :: a9 :: a10 :: a11 :: a12 :: a13 :: a14 :: a15 :: a16 :: a17 :: a18 :: a19 :: a20 :: a21 :: .ow (.list xs) :: r) k = ∃ d, xs.getLast? = some d ∧ k (.fz d) (a0 :: a1 :: a2 :: a3 :: a4 :: a5 :: a6 :: a7 :: a8 :: a9 :: a10 :: a11 :: a12 :: a13 :: a14 :: a15 :: a16 :: a17 :: a18 :: a19 :: a20 :: a21 :: .ow (.list xs.dropLast) :: r) := rfl
theorem pp23 {a0 a1 a2 a3 a4 a5 a6 a7 a8 a9 a10 a11 a12 a13 a14 a15 a16 a17 a18 a19 a20 a21 a22 : Sl} : pop0End 23 (a0 :: a1 :: a2 :: a3 :: a4 :: a5 :: a6 :: a7 :: a8 :: a9 :: a10 :: a11 :: a12 :: a13 :: a14 :: a15 :: a16 :: a17 :: a18 :: a19 :: a20 :: a21 :: a22 :: .ow (.list xs) :: r) k = ∃ d, xs.getLast? = some d ∧ k (.fz d) (a0 :: a1 :: a2 :: a3 :: a4 :: a5 :: a6 :: a7 :: a8 :: a9 :: a10 :: a11 :: a12 :: a13 :: a14 :: a15 :: a16 :: a17 :: a18 :: a19 :: a20 :: a21 :: a22 :: .ow (.list xs.dropLast) :: r) := rfl
theorem pq0 : pop1End 0 j (.ow (.list xs) :: r) k = ∃ d, 0 ≤ j ∧ j < 1000000000 ∧ xs[j.toNat]? = some d ∧ k (.fz d) (.ow (.list (xs.eraseIdx j.toNat)) :: r) := rfl
theorem pq1 {a0 : Sl} : pop1End 1 j (a0 :: .ow (.list xs) :: r) k = ∃ d, 0 ≤ j ∧ j < 1000000000 ∧ xs[j.toNat]? = some d ∧ k (.fz d) (a0 :: .ow (.list (xs.eraseIdx j.toNat)) :: r) := rfl
theorem pq2 {a0 a1 : Sl} : pop1End 2 j (a0 :: a1 :: .ow (.list xs) :: r) k = ∃ d, 0 ≤ j ∧ j < 1000000000 ∧ xs[j.toNat]? = some d ∧ k (.fz d) (a0 :: a1 :: .ow (.list (xs.eraseIdx j.toNat)) :: r) := rfl
theorem pq3 {a0 a1 a2 : Sl} : pop1End 3 j (a0 :: a1 :: a2 :: .ow (.list xs) :: r) k = ∃ d, 0 ≤ j ∧ j < 1000000000 ∧ xs[j.toNat]? = some d ∧ k (.fz d) (a0 :: a1 :: a2 :: .ow (.list (xs.eraseIdx j.toNat)) :: r) := rfl
theorem pq4 {a0 a1 a2 a3 : Sl} : pop1End 4 j (a0 :: a1 :: a2 :: a3 :: .ow (.list xs) :: r) k = ∃ d, 0 ≤ j ∧ j < 1000000000 ∧ xs[j.toNat]? = some d ∧ k (.fz d) (a0 :: a1 :: a2 :: a3 :: .ow (.list (xs.eraseIdx j.toNat)) :: r) := rfl
theorem pq5 {a0 a1 a2 a3 a4 : Sl} : pop1End 5 j (a0 :: a1 :: a2 :: a3 :: a4 :: .ow (.list xs) :: r) k = ∃ d, 0 ≤ j ∧ j < 1000000000 ∧ xs[j.toNat]? = some d ∧ k (.fz d) (a0 :: a1 :: a2 :: a3 :: a4 :: .ow (.list (xs.eraseIdx j.toNat)) :: r) := rfl
theorem pq6 {a0 a1 a2 a3 a4 a5 : Sl} : pop1End 6 j (a0 :: a1 :: a2 :: a3 :: a4 :: a5 :: .ow (.list xs) :: r) k = ∃ d, 0 ≤ j ∧ j < 1000000000 ∧ xs[j.toNat]? = some d ∧ k (.fz d) (a0 :: a1 :: a2 :: a3 :: a4 :: a5 :: .ow (.list (xs.eraseIdx j.toNat)) :: r) := rfl
theorem pq7 {a0 a1 a2 a3 a4 a5 a6 : Sl} : pop1End 7 j (a0 :: a1 :: a2 :: a3 :: a4 :: a5 :: a6 :: .ow (.list xs) :: r) k = ∃ d, 0 ≤ j ∧ j < 1000000000 ∧ xs[j.toNat]? = some d ∧ k (.fz d) (a0 :: a1 :: a2 :: a3 :: a4 :: a5 :: a6 :: .ow (.list (xs.eraseIdx j.toNat)) :: r) := rfl
theorem pq8 {a0 a1 a2 a3 a4 a5 a6 a7 : Sl} : pop1End 8 j (a0 :: a1 :: a2 :: a3 :: a4 :: a5 :: a6 :: a7 :: .ow (.list xs) :: r) k = ∃ d, 0 ≤ j ∧ j < 1000000000 ∧ xs[j.toNat]? = some d ∧ k (.fz d) (a0 :: a1 :: a2 :: a3 :: a4 :: a5 :: a6 :: a7 :: .ow (.list (xs.eraseIdx j.toNat)) :: r) := rfl
theorem pq9 {a0 a1 a2 a3 a4 a5 a6 a7 a8 : Sl} : pop1End 9 j (a0 :: a1 :: a2 :: a3 :: a4 :: a5 :: a6 :: a7 :: a8 :: .ow (.list xs) :: r) k = ∃ d, 0 ≤ j ∧ j < 1000000000 ∧ xs[j.toNat]? = some d ∧ k (.fz d) (a0 :: a1 :: a2 :: a3 :: a4 :: a5 :: a6 :: a7 :: a8 :: .ow (.list (xs.eraseIdx j.toNat)) :: r) := rfl
theorem pq10 {a0 a1 a2 a3 a4 a5 a6 a7 a8 a9 : Sl} : pop1End 10 j (a0 :: a1 :: a2 :: a3 :: a4 :: a5 :: a6 :: a7 :: a8 :: a9 :: .ow (.list xs) :: r) k = ∃ d, 0 ≤ j ∧ j < 1000000000 ∧ xs[j.toNat]? = some d ∧ k (.fz d) (a0 :: a1 :: a2 :: a3 :: a4 :: a5 :: a6 :: a7 :: a8 :: a9 :: .ow (.list (xs.eraseIdx j.toNat)) :: r) := rfl
theorem pq11 {a0 a1 a2 a3 a4 a5 a6 a7 a8 a9 a10 : Sl} : pop1End 11 j (a0 :: a1 :: a2 :: a3 :: a4 :: a5 :: a6 :: a7 :: a8 :: a9 :: a10 :: .ow (.list xs) :: r) k = ∃ d, 0 ≤ j ∧ j < 1000000000 ∧ xs[j.toNat]? = some d ∧ k (.fz d) (a0 :: a1 :: a2 :: a3 :: a4 :: a5 :: a6 :: a7 :: a8 :: a9 :: a10 :: .ow (.list (xs.eraseIdx j.toNat)) :: r) := rfl
theorem pq12 {a0 a1 a2 a3 a4 a5 a6 a7 a8 a9 a10 a11 : Sl} : pop1End 12 j (a0 :: a1 :: a2 :: a3 :: a4 :: a5 :: a6 :: a7 :: a8 :: a9 :: a10 :: a11 :: .ow (.list xs) :: r) k = ∃ d, 0 ≤ j ∧ j < 1000000000 ∧ xs[j.toNat]? = some d ∧ k (.fz d) (a0 :: a1 :: a2 :: a3 :: a4 :: a5 :: a6 :: a7 :: a8 :: a9 :: a10 :: a11 :: .ow (.list (xs.eraseIdx j.toNat)) :: r) := rfl
theorem pq13 {a0 a1 a2 a3 a4 a5 a6 a7 a8 a9 a10 a11 a12 : Sl} : pop1End 13 j (a0 :: a1 :: a2 :: a3 :: a4 :: a5 :: a6 :: a7 :: a8 :: a9 :: a10 :: a11 :: a12 :: .ow (.list xs) :: r) k = ∃ d, 0 ≤ j ∧ j < 1000000000 ∧ xs[j.toNat]? = some d ∧ k (.fz d) (a0 :: a1 :: a2 :: a3 :: a4 :: a5 :: a6 :: a7 :: a8 :: a9 :: a10 :: a11 :: a12 :: .ow (.list (xs.eraseIdx j.toNat)) :: r) := rfl
theorem pq14 {a0 a1 a2 a3 a4 a5 a6 a7 a8 a9 a10 a11 a12 a13 : Sl} : pop1End 14 j (a0 :: a1 :: a2 :: a3 :: a4 :: a5 :: a6 :: a7 :: a8 :: a9 :: a10 :: a11 :: a12 :: a13 :: .ow (.list xs) :: r) k = ∃ d, 0 ≤ j ∧ j < 1000000000 ∧ xs[j.toNat]? = some d ∧ k (.fz d) (a0 :: a1 :: a2 :: a3 :: a4 :: a5 :: a6 :: a7 :: a8 :: a9 :: a10 :: a11 :: a12 :: a13 :: .ow (.list (xs.eraseIdx j.toNat)) :: r) := rfl
theorem pq15 {a0 a1 a2 a3 a4 a5 a6 a7 a8 a9 a10 a11 a12 a13 a14 : Sl} : pop1End 15 j (a0 :: a1 :: a2 :: a3 :: a4 :: a5 :: a6 :: a7 :: a8 :: a9 :: a10 :: a11 :: a12 :: a13 :: a14 :: .ow (.list xs) :: r) k = ∃ d, 0 ≤ j ∧ j < 1000000000 ∧ xs[j.toNat]? = some d ∧ k (.fz d) (a0 :: a1 :: a2 :: a3 :: a4 :: a5 :: a6 :: a7 :: a8 :: a9 :: a10 :: a11 :: a12 :: a13 :: a14 :: .ow (.list (xs.eraseIdx j.toNat)) :: r) := rfl
theorem pq16 {a0 a1 a2 a3 a4 a5 a6 a7 a8 a9 a10 a11 a12 a13 a14 a15 : Sl} : pop1End 16 j (a0 :: a1 :: a2 :: a3 :: a4 :: a5 :: a6 :: a7 :: a8 :: a9 :: a10 :: a11 :: a12 :: a13 :: a14 :: a15 :: .ow (.list xs) :: r) k = ∃ d, 0 ≤ j ∧ j < 1000000000 ∧ xs[j.toNat]? = some d ∧ k (.fz d) (a0 :: a1 :: a2 :: a3 :: a4 :: a5 :: a6 :: a7 :: a8 :: a9 :: a10 :: a11 :: a12 :: a13 :: a14 :: a15 :: .ow (.list (xs.eraseIdx j.toNat)) :: r) := rfl
theorem pq17 {a0 a1 a2 a3 a4 a5 a6 a7 a8 a9 a10 a11 a12 a13 a14 a15 a16 : Sl} : pop1End 17 j (a0 :: a1 :: a2 :: a3 :: a4 :: a5 :: a6 :: a7 :: a8 :: a9 :: a10 :: a11 :: a12 :: a13 :: a14 :: a15 :: a16 :: .ow (.list xs) :: r) k = ∃ d, 0 ≤ j ∧ j < 1000000000 ∧ xs[j.toNat]? = some d ∧ k (.fz d) (a0 :: a1 :: a2 :: a3 :: a4 :: a5 :: a6 :: a7 :: a8 :: a9 :: a10 :: a11 :: a12 :: a13 :: a14 :: a15 :: a16 :: .ow (.list (xs.eraseIdx j.toNat)) :: r) := rfl
theorem pq18 {a0 a1 a2 a3 a4 a5 a6 a7 a8 a9 a10 a11 a12 a13 a14 a15 a16 a17 : Sl} : pop1End 18 j (a0 :: a1 :: a2 :: a3 :: a4 :: a5 :: a6 :: a7 :: a8 :: a9 :: a10 :: a11 :: a12 :: a13 :: a14 :: a15 :: a16 :: a17 :: .ow (.list xs) :: r) k = ∃ d, 0 ≤ j ∧ j < 1000000000 ∧ xs[j.toNat]? = some d ∧ k (.fz d) (a0 :: a1 :: a2 :: a3 :: a4 :: a5 :: a6 :: a7 :: a8 :: a9 :: a10 :: a11 :: a12 :: a13 :: a14 :: a15 :: a16 :: a17 :: .ow (.list (xs.eraseIdx j.toNat)) :: r) := rfl
theorem pq19 {a0 a1 a2 a3 a4 a5 a6 a7 a8 a9 a10 a11 a12 a13 a14 a15 a16 a17 a18 : Sl} : pop1End 19 j (a0 :: a1 :: a2 :: a3 :: a4 :: a5 :: a6 :: a7 :: a8 :: a9 :: a10 :: a11 :: a12 :: a13 :: a14 :: a15 :: a16 :: a17 :: a18 :: .ow (.list xs) :: r) k = ∃ d, 0 ≤ j ∧ j < 1000000000 ∧ xs[j.toNat]? = some d ∧ k (.fz d) (a0 :: a1 :: a2 :: a3 :: a4 :: a5 :: a6 :: a7 :: a8 :: a9 :: a10 :: a11 :: a12 :: a13 :: a14 :: a15 :: a16 :: a17 :: a18 :: .ow (.list (xs.eraseIdx j.toNat)) :: r) := rfl
theorem pq20 {a0 a1 a2 a3 a4 a5 a6 a7 a8 a9 a10 a11 a12 a13 a14 a15 a16 a17 a18 a19 : Sl} : pop1End 20 j (a0 :: a1 :: a2 :: a3 :: a4 :: a5 :: a6 :: a7 :: a8 :: a9 :: a10 :: a11 :: a12 :: a13 :: a14 :: a15 :: a16 :: a17 :: a18 :: a19 :: .ow (.list xs) :: r) k = ∃ d, 0 ≤ j ∧ j < 1000000000 ∧ xs[j.toNat]? = some d ∧ k (.fz d) (a0 :: a1 :: a2 :: a3 :: a4 :: a5 :: a6 :: a7 :: a8 :: a9 :: a10 :: a11 :: a12 :: a13 :: a14 :: a15 :: a16 :: a17 :: a18 :: a19 :: .ow (.list (xs.eraseIdx j.toNat)) :: r) := rfl
theorem pq21 {a0 a1 a2 a3 a4 a5 a6 a7 a8 a9 a10 a11 a12 a13 a14 a15 a16 a17 a18 a19 a20 : Sl} : pop1End 21 j (a0 :: a1 :: a2 :: a3 :: a4 :: a5 :: a6 :: a7 :: a8 :: a9 :: a10 :: a11 :: a12 :: a13 :: a14 :: a15 :: a16 :: a17 :: a18 :: a19 :: a20 :: .ow (.list xs) :: r) k = ∃ d, 0 ≤ j ∧ j < 1000000000 ∧ xs[j.toNat]? = some d ∧ k (.fz d) (a0 :: a1 :: a2 :: a3 :: a4 :: a5 :: a6 :: a7 :: a8 :: a9 :: a10 :: a11 :: a12 :: a13 :: a14 :: a15 :: a16 :: a17 :: a18 :: a19 :: a20 :: .ow (.list (xs.eraseIdx j.toNat)) :: r) := rfl
theorem pq22 {a0 a1 a2 a3 a4 a5 a6 a7 a8 a9 a10 a11 a12 a13 a14 a15 a16 a17 a18 a19 a20 a21 : Sl} : pop1End 22 j (a0 :: a1 :: a2 :: a3 :: a4 :: a5 :: a6 :: a7 :: a8 :: a9 :: a10 :: a11 :: a12 :: a13 :: a14 :: a15 :: a16 :: a17 :: a18 :: a19 :: a20 :: a21 :: .ow (.list xs) :: r) k = ∃ d, 0 ≤ j ∧ j < 1000000000 ∧ xs[j.toNat]? = some d ∧ k (.fz d) (a0 :: a1 :: a2 :: a3 :: a4 :: a5 :: a6 :: a7 :: a8 :: a9 :: a10 :: a11 :: a12 :: a13 :: a14 :: a15 :: a16 :: a17 :: a18 :: a19 :: a20 :: a21 :: .ow (.list (xs.eraseIdx j.toNat)) :: r) := rfl
theorem pq23 {a0 a1 a2 a3 a4 a5 a6 a7 a8 a9 a10 a11 a12 a13 a14 a15 a16 a17 a18 a19 a20 a21 a22 : Sl} : pop1End 23 j (a0 :: a1 :: a2 :: a3 :: a4 :: a5 :: a6 :: a7 :: a8 :: a9 :: a10 :: a11 :: a12 :: a13 :: a14 :: a15 :: a16 :: a17 :: a18 :: a19 :: a20 :: a21 :: a22 :: .ow (.list xs) :: r) k = ∃ d, 0 ≤ j ∧ j < 1000000000 ∧ xs[j.toNat]? = some d ∧ k (.fz d) (a0 :: a1 :: a2 :: a3 :: a4 :: a5 :: a6 :: a7 :: a8 :: a9 :: a10 :: a11 :: a12 :: a13 :: a14 :: a15 :: a16 :: a17 :: a18 :: a19 :: a20 :: a21 :: a22 :: .ow (.list (xs.eraseIdx j.toNat)) :: r) := rfl
theorem ps0 : popSEnd 0 (.ow (.list xs) :: r) n = (xs ≠ [] ∧ n (.ow (.list xs.dropLast) :: r)) := rfl
theorem ps1 {a0 : Sl} : popSEnd 1 (a0 :: .ow (.list xs) :: r) n = (xs ≠ [] ∧ n (a0 :: .ow (.list xs.dropLast) :: r)) := rfl
theorem ps2 {a0 a1 : Sl} : popSEnd 2 (a0 :: a1 :: .ow (.list xs) :: r) n = (xs ≠ [] ∧ n (a0 :: a1 :: .ow (.list xs.dropLast) :: r)) := rfl
theorem ps3 {a0 a1 a2 : Sl} : popSEnd 3 (a0 :: a1 :: a2 :: .ow (.list xs) :: r) n = (xs ≠ [] ∧ n (a0 :: a1 :: a2 :: .ow (.list xs.dropLast) :: r)) := rfl
theorem ps4 {a0 a1 a2 a3 : Sl} : popSEnd 4 (a0 :: a1 :: a2 :: a3 :: .ow (.list xs) :: r) n = (xs ≠ [] ∧ n (a0 :: a1 :: a2 :: a3 :: .ow (.list xs.dropLast) :: r)) := rfl
theorem ps5 {a0 a1 a2 a3 a4 : Sl} : popSEnd 5 (a0 :: a1 :: a2 :: a3 :: a4 :: .ow (.list xs) :: r) n = (xs ≠ [] ∧ n (a0 :: a1 :: a2 :: a3 :: a4 :: .ow (.list xs.dropLast) :: r)) := rfl
theorem ps6 {a0 a1 a2 a3 a4 a5 : Sl} : popSEnd 6 (a0 :: a1 :: a2 :: a3 :: a4 :: a5 :: .ow (.list xs) :: r) n = (xs ≠ [] ∧ n (a0 :: a1 :: a2 :: a3 :: a4 :: a5 :: .ow (.list xs.dropLast) :: r)) := rfl
theorem ps7 {a0 a1 a2 a3 a4 a5 a6 : Sl} : popSEnd 7 (a0 :: a1 :: a2 :: a3 :: a4 :: a5 :: a6 :: .ow (.list xs) :: r) n = (xs ≠ [] ∧ n (a0 :: a1 :: a2 :: a3 :: a4 :: a5 :: a6 :: .ow (.list xs.dropLast) :: r)) := rfl
theorem ps8 {a0 a1 a2 a3 a4 a5 a6 a7 : Sl} : popSEnd 8 (a0 :: a1 :: a2 :: a3 :: a4 :: a5 :: a6 :: a7 :: .ow (.list xs) :: r) n = (xs ≠ [] ∧ n (a0 :: a1 :: a2 :: a3 :: a4 :: a5 :: a6 :: a7 :: .ow (.list xs.dropLast) :: r)) := rfl
theorem ps9 {a0 a1 a2 a3 a4 a5 a6 a7 a8 : Sl} : popSEnd 9 (a0 :: a1 :: a2 :: a3 :: a4 :: a5 :: a6 :: a7 :: a8 :: .ow (.list xs) :: r) n = (xs ≠ [] ∧ n (a0 :: a1 :: a2 :: a3 :: a4 :: a5 :: a6 :: a7 :: a8 :: .ow (.list xs.dropLast) :: r)) := rfl
theorem ps10 {a0 a1 a2 a3 a4 a5 a6 a7 a8 a9 : Sl} : popSEnd 10 (a0 :: a1 :: a2 :: a3 :: a4 :: a5 :: a6 :: a7 :: a8 :: a9 :: .ow (.list xs) :: r) n = (xs ≠ [] ∧ n (a0 :: a1 :: a2 :: a3 :: a4 :: a5 :: a6 :: a7 :: a8 :: a9 :: .ow (.list xs.dropLast) :: r)) := rfl
theorem ps11 {a0 a1 a2 a3 a4 a5 a6 a7 a8 a9 a10 : Sl} : popSEnd 11 (a0 :: a1 :: a2 :: a3 :: a4 :: a5 :: a6 :: a7 :: a8 :: a9 :: a10 :: .ow (.list xs) :: r) n = (xs ≠ [] ∧ n (a0 :: a1 :: a2 :: a3 :: a4 :: a5 :: a6 :: a7 :: a8 :: a9 :: a10 :: .ow (.list xs.dropLast) :: r)) := rfl
theorem ps12 {a0 a1 a2 a3 a4 a5 a6 a7 a8 a9 a10 a11 : Sl} : popSEnd 12 (a0 :: a1 :: a2 :: a3 :: a4 :: a5 :: a6 :: a7 :: a8 :: a9 :: a10 :: a11 :: .ow (.list xs) :: r) n = (xs ≠ [] ∧ n (a0 :: a1 :: a2 :: a3 :: a4 :: a5 :: a6 :: a7 :: a8 :: a9 :: a10 :: a11 :: .ow (.list xs.dropLast) :: r)) := rfl
theorem ps13 {a0 a1 a2 a3 a4 a5 a6 a7 a8 a9 a10 a11 a12 : Sl} : popSEnd 13 (a0 :: a1 :: a2 :: a3 :: a4 :: a5 :: a6 :: a7 :: a8 :: a9 :: a10 :: a11 :: a12 :: .ow (.list xs) :: r) n = (xs ≠ [] ∧ n (a0 :: a1 :: a2 :: a3 :: a4 :: a5 :: a6 :: a7 :: a8 :: a9 :: a10 :: a11 :: a12 :: .ow (.list xs.dropLast) :: r)) := rfl
theorem ps14 {a0 a1 a2 a3 a4 a5 a6 a7 a8 a9 a10 a11 a12 a13 : Sl} : popSEnd 14 (a0 :: a1 :: a2 :: a3 :: a4 :: a5 :: a6 :: a7 :: a8 :: a9 :: a10 :: a11 :: a12 :: a13 :: .ow (.list xs) :: r) n = (xs ≠ [] ∧ n (a0 :: a1 :: a2 :: a3 :: a4 :: a5 :: a6 :: a7 :: a8 :: a9 :: a10 :: a11 :: a12 :: a13 :: .ow (.list xs.dropLast) :: r)) := rfl
theorem ps15 {a0 a1 a2 a3 a4 a5 a6 a7 a8 a9 a10 a11 a12 a13 a14 : Sl} : popSEnd 15 (a0 :: a1 :: a2 :: a3 :: a4 :: a5 :: a6 :: a7 :: a8 :: a9 :: a10 :: a11 :: a12 :: a13 :: a14 :: .ow (.list xs) :: r) n = (xs ≠ [] ∧ n (a0 :: a1 :: a2 :: a3 :: a4 :: a5 :: a6 :: a7 :: a8 :: a9 :: a10 :: a11 :: a12 :: a13 :: a14 :: .ow (.list xs.dropLast) :: r)) := rfl
theorem ps16 {a0 a1 a2 a3 a4 a5 a6 a7 a8 a9 a10 a11 a12 a13 a14 a15 : Sl} : popSEnd 16 (a0 :: a1 :: a2 :: a3 :: a4 :: a5 :: a6 :: a7 :: a8 :: a9 :: a10 :: a11 :: a12 :: a13 :: a14 :: a15 :: .ow (.list xs) :: r) n = (xs ≠ [] ∧ n (a0 :: a1 :: a2 :: a3 :: a4 :: a5 :: a6 :: a7 :: a8 :: a9 :: a10 :: a11 :: a12 :: a13 :: a14 :: a15 :: .ow (.list xs.dropLast) :: r)) := rfl
theorem ps17 {a0 a1 a2 a3 a4 a5 a6 a7 a8 a9 a10 a11 a12 a13 a14 a15 a16 : Sl} : popSEnd 17 (a0 :: a1 :: a2 :: a3 :: a4 :: a5 :: a6 :: a7 :: a8 :: a9 :: a10 :: a11 :: a12 :: a13 :: a14 :: a15 :: a16 :: .ow (.list xs) :: r) n = (xs ≠ [] ∧ n (a0 :: a1 :: a2 :: a3 :: a4 :: a5 :: a6 :: a7 :: a8 :: a9 :: a10 :: a11 :: a12 :: a13 :: a14 :: a15 :: a16 :: .ow (.list xs.dropLast) :: r)) := rfl
theorem ps18 {a0 a1 a2 a3 a4 a5 a6 a7 a8 a9 a10 a11 a12 a13 a14 a15 a16 a17 : Sl} : popSEnd 18 (a0 :: a1 :: a2 :: a3 :: a4 :: a5 :: a6 :: a7 :: a8 :: a9 :: a10 :: a11 :: a12 :: a13 :: a14 :: a15 :: a16 :: a17 :: .ow (.list xs) :: r) n = (xs ≠ [] ∧ n (a0 :: a1 :: a2 :: a3 :: a4 :: a5 :: a6 :: a7 :: a8 :: a9 :: a10 :: a11 :: a12 :: a13 :: a14 :: a15 :: a16 :: a17 :: .ow (.list xs.dropLast) :: r)) := rfl
theorem ps19 {a0 a1 a2 a3 a4 a5 a6 a7 a8 a9 a10 a11 a12 a13 a14 a15 a16 a17 a18 : Sl} : popSEnd 19 (a0 :: a1 :: a2 :: a3 :: a4 :: a5 :: a6 :: a7 :: a8 :: a9 :: a10 :: a11 :: a12 :: a13 :: a14 :: a15 :: a16 :: a17 :: a18 :: .ow (.list xs) :: r) n = (xs ≠ [] ∧ n (a0 :: a1 :: a2 :: a3 :: a4 :: a5 :: a6 :: a7 :: a8 :: a9 :: a10 :: a11 :: a12 :: a13 :: a14 :: a15 :: a16 :: a17 :: a18 :: .ow (.list xs.dropLast) :: r)) := rfl
theorem ps20 {a0 a1 a2 a3 a4 a5 a6 a7 a8 a9 a10 a11 a12 a13 a14 a15 a16 a17 a18 a19 : Sl} : popSEnd 20 (a0 :: a1 :: a2 :: a3 :: a4 :: a5 :: a6 :: a7 :: a8 :: a9 :: a10 :: a11 :: a12 :: a13 :: a14 :: a15 :: a16 :: a17 :: a18 :: a19 :: .ow (.list xs) :: r) n = (xs ≠ [] ∧ n (a0 :: a1 :: a2 :: a3 :: a4 :: a5 :: a6 :: a7 :: a8 :: a9 :: a10 :: a11 :: a12 :: a13 :: a14 :: a15 :: a16 :: a17 :: a18 :: a19 :: .ow (.list xs.dropLast) :: r)) := rfl
theorem ps21 {a0 a1 a2 a3 a4 a5 a6 a7 a8 a9 a10 a11 a12 a13 a14 a15 a16 a17 a18 a19 a20 : Sl} : popSEnd 21 (a0 :: a1 :: a2 :: a3 :: a4 :: a5 :: a6 :: a7 :: a8 :: a9 :: a10 :: a11 :: a12 :: a13 :: a14 :: a15 :: a16 :: a17 :: a18 :: a19 :: a20 :: .ow (.list xs) :: r) n = (xs ≠ [] ∧ n (a0 :: a1 :: a2 :: a3 :: a4 :: a5 :: a6 :: a7 :: a8 :: a9 :: a10 :: a11 :: a12 :: a13 :: a14 :: a15 :: a16 :: a17 :: a18 :: a19 :: a20 :: .ow (.list xs.dropLast) :: r)) := rfl
theorem ps22 {a0 a1 a2 a3 a4 a5 a6 a7 a8 a9 a10 a11 a12 a13 a14 a15 a16 a17 a18 a19 a20 a21 : Sl} : popSEnd 22 (a0 :: a1 :: a2 :: a3 :: a4 :: a5 :: a6 :: a7 :: a8 :: a9 :: a10 :: a11 :: a12 :: a13 :: a14 :: a15 :: a16 :: a17 :: a18 :: a19 :: a20 :: a21 :: .ow (.list xs) :: r) n = (xs ≠ [] ∧ n (a0 :: a1 :: a2 :: a3 :: a4 :: a5 :: a6 :: a7 :: a8 :: a9 :: a10 :: a11 :: a12 :: a13 :: a14 :: a15 :: a16 :: a17 :: a18 :: a19 :: a20 :: a21 :: .ow (.list xs.dropLast) :: r)) := rfl
theorem ps23 {a0 a1 a2 a3 a4 a5 a6 a7 a8 a9 a10 a11 a12 a13 a14 a15 a16 a17 a18 a19 a20 a21 a22 : Sl} : popSEnd 23 (a0 :: a1 :: a2 :: a3 :: a4 :: a5 :: a6 :: a7 :: a8 :: a9 :: a10 :: a11 :: a12 :: a13 :: a14 :: a15 :: a16 :: a17 :: a18 :: a19 :: a20 :: a21 :: a22 :: .ow (.list xs) :: r) n = (xs ≠ [] ∧ n (a0 :: a1 :: a2 :: a3 :: a4 :: a5 :: a6 :: a7 :: a8 :: a9 :: a10 :: a11 :: a12 :: a13 :: a14 :: a15 :: a16 :: a17 :: a18 :: a19 :: a20 :: a21 :: a22 :: .ow (.list xs.dropLast) :: r)) := rfl
theorem sr0 : srcAt (some 0) (.src :: r) = True := eq_true rfl
theorem sr1 {a0 : Sl} : srcAt (some 1) (a0 :: .src :: r) = True := eq_true rfl
theorem sr2 {a0 a1 : Sl} : srcAt (some 2) (a0 :: a1 :: .src :: r) = True := eq_true rfl
theorem sr3 {a0 a1 a2 : Sl} : srcAt (some 3) (a0 :: a1 :: a2 :: .src :: r) = True := eq_true rfl
theorem sr4 {a0 a1 a2 a3 : Sl} : srcAt (some 4) (a0 :: a1 :: a2 :: a3 :: .src :: r) = True := eq_true rfl
theorem sr5 {a0 a1 a2 a3 a4 : Sl} : srcAt (some 5) (a0 :: a1 :: a2 :: a3 :: a4 :: .src :: r) = True := eq_true rfl
theorem sr6 {a0 a1 a2 a3 a4 a5 : Sl} : srcAt (some 6) (a0 :: a1 :: a2 :: a3 :: a4 :: a5 :: .src :: r) = True := eq_true rfl
theorem sr7 {a0 a1 a2 a3 a4 a5 a6 : Sl} : srcAt (some 7) (a0 :: a1 :: a2 :: a3 :: a4 :: a5 :: a6 :: .src :: r) = True := eq_true rfl
theorem sr8 {a0 a1 a2 a3 a4 a5 a6 a7 : Sl} : srcAt (some 8) (a0 :: a1 :: a2 :: a3 :: a4 :: a5 :: a6 :: a7 :: .src :: r) = True := eq_true rfl
theorem sr9 {a0 a1 a2 a3 a4 a5 a6 a7 a8 : Sl} : srcAt (some 9) (a0 :: a1 :: a2 :: a3 :: a4 :: a5 :: a6 :: a7 :: a8 :: .src :: r) = True := eq_true rfl
theorem sr10 {a0 a1 a2 a3 a4 a5 a6 a7 a8 a9 : Sl} : srcAt (some 10) (a0 :: a1 :: a2 :: a3 :: a4 :: a5 :: a6 :: a7 :: a8 :: a9 :: .src :: r) = True := eq_true rfl
theorem sr11 {a0 a1 a2 a3 a4 a5 a6 a7 a8 a9 a10 : Sl} : srcAt (some 11) (a0 :: a1 :: a2 :: a3 :: a4 :: a5 :: a6 :: a7 :: a8 :: a9 :: a10 :: .src :: r) = True := eq_true rfl
theorem sr12 {a0 a1 a2 a3 a4 a5 a6 a7 a8 a9 a10 a11 : Sl} : srcAt (some 12) (a0 :: a1 :: a2 :: a3 :: a4 :: a5 :: a6 :: a7 :: a8 :: a9 :: a10 :: a11 :: .src :: r) = True := eq_true rfl
theorem sr13 {a0 a1 a2 a3 a4 a5 a6 a7 a8 a9 a10 a11 a12 : Sl} : srcAt (some 13) (a0 :: a1 :: a2 :: a3 :: a4 :: a5 :: a6 :: a7 :: a8 :: a9 :: a10 :: a11 :: a12 :: .src :: r) = True := eq_true rfl
theorem sr14 {a0 a1 a2 a3 a4 a5 a6 a7 a8 a9 a10 a11 a12 a13 : Sl} : srcAt (some 14) (a0 :: a1 :: a2 :: a3 :: a4 :: a5 :: a6 :: a7 :: a8 :: a9 :: a10 :: a11 :: a12 :: a13 :: .src :: r) = True := eq_true rfl
theorem sr15 {a0 a1 a2 a3 a4 a5 a6 a7 a8 a9 a10 a11 a12 a13 a14 : Sl} : srcAt (some 15) (a0 :: a1 :: a2 :: a3 :: a4 :: a5 :: a6 :: a7 :: a8 :: a9 :: a10 :: a11 :: a12 :: a13 :: a14 :: .src :: r) = True := eq_true rfl
theorem sr16 {a0 a1 a2 a3 a4 a5 a6 a7 a8 a9 a10 a11 a12 a13 a14 a15 : Sl} : srcAt (some 16) (a0 :: a1 :: a2 :: a3 :: a4 :: a5 :: a6 :: a7 :: a8 :: a9 :: a10 :: a11 :: a12 :: a13 :: a14 :: a15 :: .src :: r) = True := eq_true rfl
theorem sr17 {a0 a1 a2 a3 a4 a5 a6 a7 a8 a9 a10 a11 a12 a13 a14 a15 a16 : Sl} : srcAt (some 17) (a0 :: a1 :: a2 :: a3 :: a4 :: a5 :: a6 :: a7 :: a8 :: a9 :: a10 :: a11 :: a12 :: a13 :: a14 :: a15 :: a16 :: .src :: r) = True := eq_true rfl
theorem sr18 {a0 a1 a2 a3 a4 a5 a6 a7 a8 a9 a10 a11 a12 a13 a14 a15 a16 a17 : Sl} : srcAt (some 18) (a0 :: a1 :: a2 :: a3 :: a4 :: a5 :: a6 :: a7 :: a8 :: a9 :: a10 :: a11 :: a12 :: a13 :: a14 :: a15 :: a16 :: a17 :: .src :: r) = True := eq_true rfl
theorem sr19 {a0 a1 a2 a3 a4 a5 a6 a7 a8 a9 a10 a11 a12 a13 a14 a15 a16 a17 a18 : Sl} : srcAt (some 19) (a0 :: a1 :: a2 :: a3 :: a4 :: a5 :: a6 :: a7 :: a8 :: a9 :: a10 :: a11 :: a12 :: a13 :: a14 :: a15 :: a16 :: a17 :: a18 :: .src :: r) = True := eq_true rfl
theorem sr20 {a0 a1 a2 a3 a4 a5 a6 a7 a8 a9 a10 a11 a12 a13 a14 a15 a16 a17 a18 a19 : Sl} : srcAt (some 20) (a0 :: a1 :: a2 :: a3 :: a4 :: a5 :: a6 :: a7 :: a8 :: a9 :: a10 :: a11 :: a12 :: a13 :: a14 :: a15 :: a16 :: a17 :: a18 :: a19 :: .src :: r) = True := eq_true rfl
theorem sr21 {a0 a1 a2 a3 a4 a5 a6 a7 a8 a9 a10 a11 a12 a13 a14 a15 a16 a17 a18 a19 a20 : Sl} : srcAt (some 21) (a0 :: a1 :: a2 :: a3 :: a4 :: a5 :: a6 :: a7 :: a8 :: a9 :: a10 :: a11 :: a12 :: a13 :: a14 :: a15 :: a16 :: a17 :: a18 :: a19 :: a20 :: .src :: r) = True := eq_true rfl
theorem sr22 {a0 a1 a2 a3 a4 a5 a6 a7 a8 a9 a10 a11 a12 a13 a14 a15 a16 a17 a18 a19 a20 a21 : Sl} : srcAt (some 22) (a0 :: a1 :: a2 :: a3 :: a4 :: a5 :: a6 :: a7 :: a8 :: a9 :: a10 :: a11 :: a12 :: a13 :: a14 :: a15 :: a16 :: a17 :: a18 :: a19 :: a20 :: a21 :: .src :: r) = True := eq_true rfl
theorem sr23 {a0 a1 a2 a3 a4 a5 a6 a7 a8 a9 a10 a11 a12 a13 a14 a15 a16 a17 a18 a19 a20 a21 a22 : Sl} : srcAt (some 23) (a0 :: a1 :: a2 :: a3 :: a4 :: a5 :: a6 :: a7 :: a8 :: a9 :: a10 :: a11 :: a12 :: a13 :: a14 :: a15 :: a16 :: a17 :: a18 :: a19 :: a20 :: a21 :: a22 :: .src :: r) = True := eq_true rfl
theorem sr_no : srcAt none env = True := rfl
theorem rt_f : rets false x = .fz x := rfl
theorem rt_t : rets true x = .fr x := rfl
theorem t_b : truth (.fz (.bool p)) kc = kc p := propext truth_bool
theorem b_addI : bopS .addI (.int i) (.int j) kb = kb false (.int (i + j)) := rfl
theorem b_subI : bopS .subI (.int i) (.int j) kb = kb false (.int (i - j)) := rfl
theorem b_mulI : bopS .mulI (.int i) (.int j) kb = (MulOk i j ∧ kb false (.int (i * j))) := rfl
theorem b_fdivI : bopS .fdivI (.int i) (.int j) kb = (DivOk j ∧ kb false (.int (i / j))) := rfl
theorem b_modI : bopS .modI (.int i) (.int j) kb = (0 < j ∧ kb false (.int (i % j))) := rfl
theorem b_addL : bopS .addL (.list xs) (.list ys) kb = (Fits (xs.length + ys.length) ∧ kb true (.list (xs ++ ys))) := rfl
theorem b_addT : bopS .addT (.tuple xs) (.tuple ys) kb = (Fits (xs.length + ys.length) ∧ kb false (.tuple (xs ++ ys))) := rfl
theorem b_addS : bopS .addS (.str s) (.str t) kb = (Fits (s.length + t.length) ∧ kb false (.str (s ++ t))) := rfl
theorem b_mulL : bopS .mulL (.list xs) (.int j) kb = ((-1000000 ≤ j ∧ j ≤ 1000000 ∧ Fits (xs.length * j.toNat)) ∧ kb true (.list (List.replicate j.toNat xs).flatten)) := rfl
theorem b_mulT : bopS .mulT (.tuple xs) (.int j) kb = ((-1000000 ≤ j ∧ j ≤ 1000 ∧ xs.length ≤ 1000) ∧ kb false (.tuple (List.replicate j.toNat xs).flatten)) := rfl
theorem c_eqI : cmpS .eqI (.int i) (.int j) kc = kc (decide (i = j)) := rfl
theorem c_neI : cmpS .neI (.int i) (.int j) kc = kc (!decide (i = j)) := rfl
theorem c_ltI : cmpS .ltI (.int i) (.int j) kc = kc (decide (i < j)) := rfl
theorem c_leI : cmpS .leI (.int i) (.int j) kc = kc (decide (i ≤ j)) := rfl
theorem c_gtI : cmpS .gtI (.int i) (.int j) kc = kc (decide (j < i)) := rfl
theorem c_geI : cmpS .geI (.int i) (.int j) kc = kc (decide (j ≤ i)) := rfl
theorem c_eqS : cmpS .eqS (.str s) (.str t) kc = kc (decide (s = t)) := rfl
theorem c_neS : cmpS .neS (.str s) (.str t) kc = kc (!decide (s = t)) := rfl
theorem c_eq : cmpS .eq x y kc = (Shp x ∧ Shp y ∧ kc (PyData.eqv x y)) := rfl
theorem c_ne : cmpS .ne x y kc = (Shp x ∧ Shp y ∧ kc (!PyData.eqv x y)) := rfl
theorem u_lenl : b1S .len (.list xs) kb = kb false (.int xs.length) := rfl
theorem u_lent : b1S .len (.tuple xs) kb = kb false (.int xs.length) := rfl
theorem u_tupLl : b1S .tupL (.list xs) kb = kb false (.tuple xs) := rfl
theorem u_tupTt : b1S .tupT (.tuple xs) kb = kb false (.tuple xs) := rfl
theorem u_lstQl : b1S .lstQ (.list xs) kb = kb true (.list xs) := rfl
theorem u_lstQt : b1S .lstQ (.tuple xs) kb = kb true (.list xs) := rfl
theorem u_intIi : b1S .intI (.int i) kb = kb false (.int i) := rfl
theorem u_intBb : b1S .intB (.bool p) kb = kb false (.int (if p then 1 else 0)) := rfl
theorem u_absi : b1S .abs (.int i) kb = kb false (.int (if i < 0 then -i else i)) := rfl
theorem u_repr : b1S .repr x kb = (Shows x ∧ kb false (.str x.shown)) := by cases x <;> rfl
theorem u_isT : b1S .isT x kb = kb false (.bool (isTupD x)) := by cases x <;> rfl
theorem u_isI : b1S .isI x kb = kb false (.bool (isIntD x)) := by cases x <;> rfl
theorem u_isB : b1S .isB x kb = kb false (.bool (isBoolD x)) := by cases x <;> rfl
theorem u_isS : b1S .isS x kb = kb false (.bool (isStrD x)) := by cases x <;> rfl
theorem u_all : b1S .all (.list xs) kb = ∃ bs, boolsOf? xs = some bs ∧ kb false (.bool (bs.all id)) := rfl
theorem u_sum : b1S .sum (.list xs) kb = ∃ ns, intsOf? xs = some ns ∧ kb false (.int ns.sum) := rfl
theorem u_maxL : b1S .maxL (.list xs) kb = ∃ ns, intsOf? xs = some ns ∧ 0 < ns.length ∧ ∀ m, m ∈ ns → (∀ y ∈ ns, y ≤ m) → kb false (.int m) := rfl
theorem u_minL : b1S .minL (.list xs) kb = ∃ ns, intsOf? xs = some ns ∧ 0 < ns.length ∧ ∀ m, m ∈ ns → (∀ y ∈ ns, m ≤ y) → kb false (.int m) := rfl
theorem u_sumT : b1S .sumT (.tuple xs) kb = ∃ ns, intsOf? xs = some ns ∧ kb false (.int ns.sum) := rfl
theorem u_maxT : b1S .maxT (.tuple xs) kb = ∃ ns, intsOf? xs = some ns ∧ 0 < ns.length ∧ ∀ m, m ∈ ns → (∀ y ∈ ns, y ≤ m) → kb false (.int m) := rfl
theorem u_minT : b1S .minT (.tuple xs) kb = ∃ ns, intsOf? xs = some ns ∧ 0 < ns.length ∧ ∀ m, m ∈ ns → (∀ y ∈ ns, m ≤ y) → kb false (.int m) := rfl
theorem u_sortDl : b1S .sortD (.list xs) kb = (SortsD xs ∧ kb true (.list (sortD xs))) := rfl
theorem u_sortDt : b1S .sortD (.tuple xs) kb = (SortsD xs ∧ kb true (.list (sortD xs))) := rfl
theorem u_max2 : b2S .max2 (.int i) (.int j) kb = kb false (.int (if j > i then j else i)) := rfl
theorem u_min2 : b2S .min2 (.int i) (.int j) kb = kb false (.int (if j < i then j else i)) := rfl
theorem u_gcd : b2S .gcd (.int i) (.int j) kb = kb false (.int ((Nat.gcd i.natAbs j.natAbs : Nat) : Int)) := rfl
theorem ix_l : b2S .indexL (.list xs) y kb = (Flat y = true ∧ xs.all Flat = true ∧ ∃ j : Nat, xs.findIdx? (fun z => PyData.eqv z y) = some j ∧ kb false (.int (j : Nat))) := rfl
theorem ix_t : b2S .indexT (.tuple xs) y kb = (Flat y = true ∧ xs.all Flat = true ∧ ∃ j : Nat, xs.findIdx? (fun z => PyData.eqv z y) = some j ∧ kb false (.int (j : Nat))) := rfl
theorem id_l0 : isD .indexL (.bw 0) (.ow (.list xs) :: r) = True := eq_true ⟨xs, rfl⟩
theorem id_l1 {a0 : Sl} : isD .indexL (.bw 1) (a0 :: .ow (.list xs) :: r) = True := eq_true ⟨xs, rfl⟩
theorem id_l2 {a0 a1 : Sl} : isD .indexL (.bw 2) (a0 :: a1 :: .ow (.list xs) :: r) = True := eq_true ⟨xs, rfl⟩
theorem id_l3 {a0 a1 a2 : Sl} : isD .indexL (.bw 3) (a0 :: a1 :: a2 :: .ow (.list xs) :: r) = True := eq_true ⟨xs, rfl⟩
theorem id_l4 {a0 a1 a2 a3 : Sl} : isD .indexL (.bw 4) (a0 :: a1 :: a2 :: a3 :: .ow (.list xs) :: r) = True := eq_true ⟨xs, rfl⟩
theorem id_l5 {a0 a1 a2 a3 a4 : Sl} : isD .indexL (.bw 5) (a0 :: a1 :: a2 :: a3 :: a4 :: .ow (.list xs) :: r) = True := eq_true ⟨xs, rfl⟩
theorem id_l6 {a0 a1 a2 a3 a4 a5 : Sl} : isD .indexL (.bw 6) (a0 :: a1 :: a2 :: a3 :: a4 :: a5 :: .ow (.list xs) :: r) = True := eq_true ⟨xs, rfl⟩
theorem id_l7 {a0 a1 a2 a3 a4 a5 a6 : Sl} : isD .indexL (.bw 7) (a0 :: a1 :: a2 :: a3 :: a4 :: a5 :: a6 :: .ow (.list xs) :: r) = True := eq_true ⟨xs, rfl⟩
theorem id_l8 {a0 a1 a2 a3 a4 a5 a6 a7 : Sl} : isD .indexL (.bw 8) (a0 :: a1 :: a2 :: a3 :: a4 :: a5 :: a6 :: a7 :: .ow (.list xs) :: r) = True := eq_true ⟨xs, rfl⟩
theorem id_l9 {a0 a1 a2 a3 a4 a5 a6 a7 a8 : Sl} : isD .indexL (.bw 9) (a0 :: a1 :: a2 :: a3 :: a4 :: a5 :: a6 :: a7 :: a8 :: .ow (.list xs) :: r) = True := eq_true ⟨xs, rfl⟩
theorem id_l10 {a0 a1 a2 a3 a4 a5 a6 a7 a8 a9 : Sl} : isD .indexL (.bw 10) (a0 :: a1 :: a2 :: a3 :: a4 :: a5 :: a6 :: a7 :: a8 :: a9 :: .ow (.list xs) :: r) = True := eq_true ⟨xs, rfl⟩
theorem id_l11 {a0 a1 a2 a3 a4 a5 a6 a7 a8 a9 a10 : Sl} : isD .indexL (.bw 11) (a0 :: a1 :: a2 :: a3 :: a4 :: a5 :: a6 :: a7 :: a8 :: a9 :: a10 :: .ow (.list xs) :: r) = True := eq_true ⟨xs, rfl⟩
theorem id_l12 {a0 a1 a2 a3 a4 a5 a6 a7 a8 a9 a10 a11 : Sl} : isD .indexL (.bw 12) (a0 :: a1 :: a2 :: a3 :: a4 :: a5 :: a6 :: a7 :: a8 :: a9 :: a10 :: a11 :: .ow (.list xs) :: r) = True := eq_true ⟨xs, rfl⟩
theorem id_l13 {a0 a1 a2 a3 a4 a5 a6 a7 a8 a9 a10 a11 a12 : Sl} : isD .indexL (.bw 13) (a0 :: a1 :: a2 :: a3 :: a4 :: a5 :: a6 :: a7 :: a8 :: a9 :: a10 :: a11 :: a12 :: .ow (.list xs) :: r) = True := eq_true ⟨xs, rfl⟩
theorem id_l14 {a0 a1 a2 a3 a4 a5 a6 a7 a8 a9 a10 a11 a12 a13 : Sl} : isD .indexL (.bw 14) (a0 :: a1 :: a2 :: a3 :: a4 :: a5 :: a6 :: a7 :: a8 :: a9 :: a10 :: a11 :: a12 :: a13 :: .ow (.list xs) :: r) = True := eq_true ⟨xs, rfl⟩
theorem id_l15 {a0 a1 a2 a3 a4 a5 a6 a7 a8 a9 a10 a11 a12 a13 a14 : Sl} : isD .indexL (.bw 15) (a0 :: a1 :: a2 :: a3 :: a4 :: a5 :: a6 :: a7 :: a8 :: a9 :: a10 :: a11 :: a12 :: a13 :: a14 :: .ow (.list xs) :: r) = True := eq_true ⟨xs, rfl⟩
theorem id_l16 {a0 a1 a2 a3 a4 a5 a6 a7 a8 a9 a10 a11 a12 a13 a14 a15 : Sl} : isD .indexL (.bw 16) (a0 :: a1 :: a2 :: a3 :: a4 :: a5 :: a6 :: a7 :: a8 :: a9 :: a10 :: a11 :: a12 :: a13 :: a14 :: a15 :: .ow (.list xs) :: r) = True := eq_true ⟨xs, rfl⟩
theorem id_l17 {a0 a1 a2 a3 a4 a5 a6 a7 a8 a9 a10 a11 a12 a13 a14 a15 a16 : Sl} : isD .indexL (.bw 17) (a0 :: a1 :: a2 :: a3 :: a4 :: a5 :: a6 :: a7 :: a8 :: a9 :: a10 :: a11 :: a12 :: a13 :: a14 :: a15 :: a16 :: .ow (.list xs) :: r) = True := eq_true ⟨xs, rfl⟩
theorem id_l18 {a0 a1 a2 a3 a4 a5 a6 a7 a8 a9 a10 a11 a12 a13 a14 a15 a16 a17 : Sl} : isD .indexL (.bw 18) (a0 :: a1 :: a2 :: a3 :: a4 :: a5 :: a6 :: a7 :: a8 :: a9 :: a10 :: a11 :: a12 :: a13 :: a14 :: a15 :: a16 :: a17 :: .ow (.list xs) :: r) = True := eq_true ⟨xs, rfl⟩
theorem id_l19 {a0 a1 a2 a3 a4 a5 a6 a7 a8 a9 a10 a11 a12 a13 a14 a15 a16 a17 a18 : Sl} : isD .indexL (.bw 19) (a0 :: a1 :: a2 :: a3 :: a4 :: a5 :: a6 :: a7 :: a8 :: a9 :: a10 :: a11 :: a12 :: a13 :: a14 :: a15 :: a16 :: a17 :: a18 :: .ow (.list xs) :: r) = True := eq_true ⟨xs, rfl⟩
theorem id_l20 {a0 a1 a2 a3 a4 a5 a6 a7 a8 a9 a10 a11 a12 a13 a14 a15 a16 a17 a18 a19 : Sl} : isD .indexL (.bw 20) (a0 :: a1 :: a2 :: a3 :: a4 :: a5 :: a6 :: a7 :: a8 :: a9 :: a10 :: a11 :: a12 :: a13 :: a14 :: a15 :: a16 :: a17 :: a18 :: a19 :: .ow (.list xs) :: r) = True := eq_true ⟨xs, rfl⟩
theorem id_l21 {a0 a1 a2 a3 a4 a5 a6 a7 a8 a9 a10 a11 a12 a13 a14 a15 a16 a17 a18 a19 a20 : Sl} : isD .indexL (.bw 21) (a0 :: a1 :: a2 :: a3 :: a4 :: a5 :: a6 :: a7 :: a8 :: a9 :: a10 :: a11 :: a12 :: a13 :: a14 :: a15 :: a16 :: a17 :: a18 :: a19 :: a20 :: .ow (.list xs) :: r) = True := eq_true ⟨xs, rfl⟩
theorem id_l22 {a0 a1 a2 a3 a4 a5 a6 a7 a8 a9 a10 a11 a12 a13 a14 a15 a16 a17 a18 a19 a20 a21 : Sl} : isD .indexL (.bw 22) (a0 :: a1 :: a2 :: a3 :: a4 :: a5 :: a6 :: a7 :: a8 :: a9 :: a10 :: a11 :: a12 :: a13 :: a14 :: a15 :: a16 :: a17 :: a18 :: a19 :: a20 :: a21 :: .ow (.list xs) :: r) = True := eq_true ⟨xs, rfl⟩
theorem id_l23 {a0 a1 a2 a3 a4 a5 a6 a7 a8 a9 a10 a11 a12 a13 a14 a15 a16 a17 a18 a19 a20 a21 a22 : Sl} : isD .indexL (.bw 23) (a0 :: a1 :: a2 :: a3 :: a4 :: a5 :: a6 :: a7 :: a8 :: a9 :: a10 :: a11 :: a12 :: a13 :: a14 :: a15 :: a16 :: a17 :: a18 :: a19 :: a20 :: a21 :: a22 :: .ow (.list xs) :: r) = True := eq_true ⟨xs, rfl⟩
theorem id_m0 : isD .indexL (.bw 0) (.fz (.list xs) :: r) = True := eq_true ⟨xs, rfl⟩
theorem id_m1 {a0 : Sl} : isD .indexL (.bw 1) (a0 :: .fz (.list xs) :: r) = True := eq_true ⟨xs, rfl⟩
theorem id_m2 {a0 a1 : Sl} : isD .indexL (.bw 2) (a0 :: a1 :: .fz (.list xs) :: r) = True := eq_true ⟨xs, rfl⟩
theorem id_m3 {a0 a1 a2 : Sl} : isD .indexL (.bw 3) (a0 :: a1 :: a2 :: .fz (.list xs) :: r) = True := eq_true ⟨xs, rfl⟩
theorem id_m4 {a0 a1 a2 a3 : Sl} : isD .indexL (.bw 4) (a0 :: a1 :: a2 :: a3 :: .fz (.list xs) :: r) = True := eq_true ⟨xs, rfl⟩
theorem id_m5 {a0 a1 a2 a3 a4 : Sl} : isD .indexL (.bw 5) (a0 :: a1 :: a2 :: a3 :: a4 :: .fz (.list xs) :: r) = True := eq_true ⟨xs, rfl⟩
theorem id_m6 {a0 a1 a2 a3 a4 a5 : Sl} : isD .indexL (.bw 6) (a0 :: a1 :: a2 :: a3 :: a4 :: a5 :: .fz (.list xs) :: r) = True := eq_true ⟨xs, rfl⟩
theorem id_m7 {a0 a1 a2 a3 a4 a5 a6 : Sl} : isD .indexL (.bw 7) (a0 :: a1 :: a2 :: a3 :: a4 :: a5 :: a6 :: .fz (.list xs) :: r) = True := eq_true ⟨xs, rfl⟩
theorem id_m8 {a0 a1 a2 a3 a4 a5 a6 a7 : Sl} : isD .indexL (.bw 8) (a0 :: a1 :: a2 :: a3 :: a4 :: a5 :: a6 :: a7 :: .fz (.list xs) :: r) = True := eq_true ⟨xs, rfl⟩
theorem id_m9 {a0 a1 a2 a3 a4 a5 a6 a7 a8 : Sl} : isD .indexL (.bw 9) (a0 :: a1 :: a2 :: a3 :: a4 :: a5 :: a6 :: a7 :: a8 :: .fz (.list xs) :: r) = True := eq_true ⟨xs, rfl⟩
theorem id_m10 {a0 a1 a2 a3 a4 a5 a6 a7 a8 a9 : Sl} : isD .indexL (.bw 10) (a0 :: a1 :: a2 :: a3 :: a4 :: a5 :: a6 :: a7 :: a8 :: a9 :: .fz (.list xs) :: r) = True := eq_true ⟨xs, rfl⟩
theorem id_m11 {a0 a1 a2 a3 a4 a5 a6 a7 a8 a9 a10 : Sl} : isD .indexL (.bw 11) (a0 :: a1 :: a2 :: a3 :: a4 :: a5 :: a6 :: a7 :: a8 :: a9 :: a10 :: .fz (.list xs) :: r) = True := eq_true ⟨xs, rfl⟩
theorem id_m12 {a0 a1 a2 a3 a4 a5 a6 a7 a8 a9 a10 a11 : Sl} : isD .indexL (.bw 12) (a0 :: a1 :: a2 :: a3 :: a4 :: a5 :: a6 :: a7 :: a8 :: a9 :: a10 :: a11 :: .fz (.list xs) :: r) = True := eq_true ⟨xs, rfl⟩
theorem id_m13 {a0 a1 a2 a3 a4 a5 a6 a7 a8 a9 a10 a11 a12 : Sl} : isD .indexL (.bw 13) (a0 :: a1 :: a2 :: a3 :: a4 :: a5 :: a6 :: a7 :: a8 :: a9 :: a10 :: a11 :: a12 :: .fz (.list xs) :: r) = True := eq_true ⟨xs, rfl⟩
theorem id_m14 {a0 a1 a2 a3 a4 a5 a6 a7 a8 a9 a10 a11 a12 a13 : Sl} : isD .indexL (.bw 14) (a0 :: a1 :: a2 :: a3 :: a4 :: a5 :: a6 :: a7 :: a8 :: a9 :: a10 :: a11 :: a12 :: a13 :: .fz (.list xs) :: r) = True := eq_true ⟨xs, rfl⟩
theorem id_m15 {a0 a1 a2 a3 a4 a5 a6 a7 a8 a9 a10 a11 a12 a13 a14 : Sl} : isD .indexL (.bw 15) (a0 :: a1 :: a2 :: a3 :: a4 :: a5 :: a6 :: a7 :: a8 :: a9 :: a10 :: a11 :: a12 :: a13 :: a14 :: .fz (.list xs) :: r) = True := eq_true ⟨xs, rfl⟩
theorem id_m16 {a0 a1 a2 a3 a4 a5 a6 a7 a8 a9 a10 a11 a12 a13 a14 a15 : Sl} : isD .indexL (.bw 16) (a0 :: a1 :: a2 :: a3 :: a4 :: a5 :: a6 :: a7 :: a8 :: a9 :: a10 :: a11 :: a12 :: a13 :: a14 :: a15 :: .fz (.list xs) :: r) = True := eq_true ⟨xs, rfl⟩
theorem id_m17 {a0 a1 a2 a3 a4 a5 a6 a7 a8 a9 a10 a11 a12 a13 a14 a15 a16 : Sl} : isD .indexL (.bw 17) (a0 :: a1 :: a2 :: a3 :: a4 :: a5 :: a6 :: a7 :: a8 :: a9 :: a10 :: a11 :: a12 :: a13 :: a14 :: a15 :: a16 :: .fz (.list xs) :: r) = True := eq_true ⟨xs, rfl⟩
theorem id_m18 {a0 a1 a2 a3 a4 a5 a6 a7 a8 a9 a10 a11 a12 a13 a14 a15 a16 a17 : Sl} : isD .indexL (.bw 18) (a0 :: a1 :: a2 :: a3 :: a4 :: a5 :: a6 :: a7 :: a8 :: a9 :: a10 :: a11 :: a12 :: a13 :: a14 :: a15 :: a16 :: a17 :: .fz (.list xs) :: r) = True := eq_true ⟨xs, rfl⟩
theorem id_m19 {a0 a1 a2 a3 a4 a5 a6 a7 a8 a9 a10 a11 a12 a13 a14 a15 a16 a17 a18 : Sl} : isD .indexL (.bw 19) (a0 :: a1 :: a2 :: a3 :: a4 :: a5 :: a6 :: a7 :: a8 :: a9 :: a10 :: a11 :: a12 :: a13 :: a14 :: a15 :: a16 :: a17 :: a18 :: .fz (.list xs) :: r) = True := eq_true ⟨xs, rfl⟩
theorem id_m20 {a0 a1 a2 a3 a4 a5 a6 a7 a8 a9 a10 a11 a12 a13 a14 a15 a16 a17 a18 a19 : Sl} : isD .indexL (.bw 20) (a0 :: a1 :: a2 :: a3 :: a4 :: a5 :: a6 :: a7 :: a8 :: a9 :: a10 :: a11 :: a12 :: a13 :: a14 :: a15 :: a16 :: a17 :: a18 :: a19 :: .fz (.list xs) :: r) = True := eq_true ⟨xs, rfl⟩
theorem id_m21 {a0 a1 a2 a3 a4 a5 a6 a7 a8 a9 a10 a11 a12 a13 a14 a15 a16 a17 a18 a19 a20 : Sl} : isD .indexL (.bw 21) (a0 :: a1 :: a2 :: a3 :: a4 :: a5 :: a6 :: a7 :: a8 :: a9 :: a10 :: a11 :: a12 :: a13 :: a14 :: a15 :: a16 :: a17 :: a18 :: a19 :: a20 :: .fz (.list xs) :: r) = True := eq_true ⟨xs, rfl⟩
theorem id_m22 {a0 a1 a2 a3 a4 a5 a6 a7 a8 a9 a10 a11 a12 a13 a14 a15 a16 a17 a18 a19 a20 a21 : Sl} : isD .indexL (.bw 22) (a0 :: a1 :: a2 :: a3 :: a4 :: a5 :: a6 :: a7 :: a8 :: a9 :: a10 :: a11 :: a12 :: a13 :: a14 :: a15 :: a16 :: a17 :: a18 :: a19 :: a20 :: a21 :: .fz (.list xs) :: r) = True := eq_true ⟨xs, rfl⟩
theorem id_m23 {a0 a1 a2 a3 a4 a5 a6 a7 a8 a9 a10 a11 a12 a13 a14 a15 a16 a17 a18 a19 a20 a21 a22 : Sl} : isD .indexL (.bw 23) (a0 :: a1 :: a2 :: a3 :: a4 :: a5 :: a6 :: a7 :: a8 :: a9 :: a10 :: a11 :: a12 :: a13 :: a14 :: a15 :: a16 :: a17 :: a18 :: a19 :: a20 :: a21 :: a22 :: .fz (.list xs) :: r) = True := eq_true ⟨xs, rfl⟩
theorem id_f : isD .indexL (.fz (.list xs)) env = True := eq_true ⟨xs, rfl⟩
theorem id_r : isD .indexL (.fr (.list xs)) env = True := eq_true ⟨xs, rfl⟩
theorem id_t : isD .indexT (.fz (.tuple xs)) env = True := eq_true ⟨xs, rfl⟩
theorem idd0 : isDict (.bw 0) (.ow (.dict kvs) :: r) = True := eq_true ⟨kvs, rfl⟩
theorem idd1 {a0 : Sl} : isDict (.bw 1) (a0 :: .ow (.dict kvs) :: r) = True := eq_true ⟨kvs, rfl⟩
theorem idd2 {a0 a1 : Sl} : isDict (.bw 2) (a0 :: a1 :: .ow (.dict kvs) :: r) = True := eq_true ⟨kvs, rfl⟩
theorem idd3 {a0 a1 a2 : Sl} : isDict (.bw 3) (a0 :: a1 :: a2 :: .ow (.dict kvs) :: r) = True := eq_true ⟨kvs, rfl⟩
theorem idd4 {a0 a1 a2 a3 : Sl} : isDict (.bw 4) (a0 :: a1 :: a2 :: a3 :: .ow (.dict kvs) :: r) = True := eq_true ⟨kvs, rfl⟩
theorem idd5 {a0 a1 a2 a3 a4 : Sl} : isDict (.bw 5) (a0 :: a1 :: a2 :: a3 :: a4 :: .ow (.dict kvs) :: r) = True := eq_true ⟨kvs, rfl⟩
theorem idd6 {a0 a1 a2 a3 a4 a5 : Sl} : isDict (.bw 6) (a0 :: a1 :: a2 :: a3 :: a4 :: a5 :: .ow (.dict kvs) :: r) = True := eq_true ⟨kvs, rfl⟩
theorem idd7 {a0 a1 a2 a3 a4 a5 a6 : Sl} : isDict (.bw 7) (a0 :: a1 :: a2 :: a3 :: a4 :: a5 :: a6 :: .ow (.dict kvs) :: r) = True := eq_true ⟨kvs, rfl⟩
theorem idd8 {a0 a1 a2 a3 a4 a5 a6 a7 : Sl} : isDict (.bw 8) (a0 :: a1 :: a2 :: a3 :: a4 :: a5 :: a6 :: a7 :: .ow (.dict kvs) :: r) = True := eq_true ⟨kvs, rfl⟩
theorem idd9 {a0 a1 a2 a3 a4 a5 a6 a7 a8 : Sl} : isDict (.bw 9) (a0 :: a1 :: a2 :: a3 :: a4 :: a5 :: a6 :: a7 :: a8 :: .ow (.dict kvs) :: r) = True := eq_true ⟨kvs, rfl⟩
theorem idd10 {a0 a1 a2 a3 a4 a5 a6 a7 a8 a9 : Sl} : isDict (.bw 10) (a0 :: a1 :: a2 :: a3 :: a4 :: a5 :: a6 :: a7 :: a8 :: a9 :: .ow (.dict kvs) :: r) = True := eq_true ⟨kvs, rfl⟩
theorem idd11 {a0 a1 a2 a3 a4 a5 a6 a7 a8 a9 a10 : Sl} : isDict (.bw 11) (a0 :: a1 :: a2 :: a3 :: a4 :: a5 :: a6 :: a7 :: a8 :: a9 :: a10 :: .ow (.dict kvs) :: r) = True := eq_true ⟨kvs, rfl⟩
theorem idd12 {a0 a1 a2 a3 a4 a5 a6 a7 a8 a9 a10 a11 : Sl} : isDict (.bw 12) (a0 :: a1 :: a2 :: a3 :: a4 :: a5 :: a6 :: a7 :: a8 :: a9 :: a10 :: a11 :: .ow (.dict kvs) :: r) = True := eq_true ⟨kvs, rfl⟩
theorem idd13 {a0 a1 a2 a3 a4 a5 a6 a7 a8 a9 a10 a11 a12 : Sl} : isDict (.bw 13) (a0 :: a1 :: a2 :: a3 :: a4 :: a5 :: a6 :: a7 :: a8 :: a9 :: a10 :: a11 :: a12 :: .ow (.dict kvs) :: r) = True := eq_true ⟨kvs, rfl⟩
theorem idd14 {a0 a1 a2 a3 a4 a5 a6 a7 a8 a9 a10 a11 a12 a13 : Sl} : isDict (.bw 14) (a0 :: a1 :: a2 :: a3 :: a4 :: a5 :: a6 :: a7 :: a8 :: a9 :: a10 :: a11 :: a12 :: a13 :: .ow (.dict kvs) :: r) = True := eq_true ⟨kvs, rfl⟩
theorem idd15 {a0 a1 a2 a3 a4 a5 a6 a7 a8 a9 a10 a11 a12 a13 a14 : Sl} : isDict (.bw 15) (a0 :: a1 :: a2 :: a3 :: a4 :: a5 :: a6 :: a7 :: a8 :: a9 :: a10 :: a11 :: a12 :: a13 :: a14 :: .ow (.dict kvs) :: r) = True := eq_true ⟨kvs, rfl⟩
theorem idd16 {a0 a1 a2 a3 a4 a5 a6 a7 a8 a9 a10 a11 a12 a13 a14 a15 : Sl} : isDict (.bw 16) (a0 :: a1 :: a2 :: a3 :: a4 :: a5 :: a6 :: a7 :: a8 :: a9 :: a10 :: a11 :: a12 :: a13 :: a14 :: a15 :: .ow (.dict kvs) :: r) = True := eq_true ⟨kvs, rfl⟩
theorem idd17 {a0 a1 a2 a3 a4 a5 a6 a7 a8 a9 a10 a11 a12 a13 a14 a15 a16 : Sl} : isDict (.bw 17) (a0 :: a1 :: a2 :: a3 :: a4 :: a5 :: a6 :: a7 :: a8 :: a9 :: a10 :: a11 :: a12 :: a13 :: a14 :: a15 :: a16 :: .ow (.dict kvs) :: r) = True := eq_true ⟨kvs, rfl⟩
theorem idd18 {a0 a1 a2 a3 a4 a5 a6 a7 a8 a9 a10 a11 a12 a13 a14 a15 a16 a17 : Sl} : isDict (.bw 18) (a0 :: a1 :: a2 :: a3 :: a4 :: a5 :: a6 :: a7 :: a8 :: a9 :: a10 :: a11 :: a12 :: a13 :: a14 :: a15 :: a16 :: a17 :: .ow (.dict kvs) :: r) = True := eq_true ⟨kvs, rfl⟩
theorem idd19 {a0 a1 a2 a3 a4 a5 a6 a7 a8 a9 a10 a11 a12 a13 a14 a15 a16 a17 a18 : Sl} : isDict (.bw 19) (a0 :: a1 :: a2 :: a3 :: a4 :: a5 :: a6 :: a7 :: a8 :: a9 :: a10 :: a11 :: a12 :: a13 :: a14 :: a15 :: a16 :: a17 :: a18 :: .ow (.dict kvs) :: r) = True := eq_true ⟨kvs, rfl⟩
theorem idd20 {a0 a1 a2 a3 a4 a5 a6 a7 a8 a9 a10 a11 a12 a13 a14 a15 a16 a17 a18 a19 : Sl} : isDict (.bw 20) (a0 :: a1 :: a2 :: a3 :: a4 :: a5 :: a6 :: a7 :: a8 :: a9 :: a10 :: a11 :: a12 :: a13 :: a14 :: a15 :: a16 :: a17 :: a18 :: a19 :: .ow (.dict kvs) :: r) = True := eq_true ⟨kvs, rfl⟩
theorem idd21 {a0 a1 a2 a3 a4 a5 a6 a7 a8 a9 a10 a11 a12 a13 a14 a15 a16 a17 a18 a19 a20 : Sl} : isDict (.bw 21) (a0 :: a1 :: a2 :: a3 :: a4 :: a5 :: a6 :: a7 :: a8 :: a9 :: a10 :: a11 :: a12 :: a13 :: a14 :: a15 :: a16 :: a17 :: a18 :: a19 :: a20 :: .ow (.dict kvs) :: r) = True := eq_true ⟨kvs, rfl⟩
theorem idd22 {a0 a1 a2 a3 a4 a5 a6 a7 a8 a9 a10 a11 a12 a13 a14 a15 a16 a17 a18 a19 a20 a21 : Sl} : isDict (.bw 22) (a0 :: a1 :: a2 :: a3 :: a4 :: a5 :: a6 :: a7 :: a8 :: a9 :: a10 :: a11 :: a12 :: a13 :: a14 :: a15 :: a16 :: a17 :: a18 :: a19 :: a20 :: a21 :: .ow (.dict kvs) :: r) = True := eq_true ⟨kvs, rfl⟩
theorem idd23 {a0 a1 a2 a3 a4 a5 a6 a7 a8 a9 a10 a11 a12 a13 a14 a15 a16 a17 a18 a19 a20 a21 a22 : Sl} : isDict (.bw 23) (a0 :: a1 :: a2 :: a3 :: a4 :: a5 :: a6 :: a7 :: a8 :: a9 :: a10 :: a11 :: a12 :: a13 :: a14 :: a15 :: a16 :: a17 :: a18 :: a19 :: a20 :: a21 :: a22 :: .ow (.dict kvs) :: r) = True := eq_true ⟨kvs, rfl⟩
theorem idd_f : isDict (.fz (.dict kvs)) env = True := eq_true ⟨kvs, rfl⟩
theorem idd_r : isDict (.fr (.dict kvs)) env = True := eq_true ⟨kvs, rfl⟩
theorem dg : dgetS (.dict kvs) y kd = (isKey y = true ∧ ∃ d, look kvs y = some d ∧ kd d) := propext ⟨fun ⟨_, e, h⟩ => by cases e; exact h, fun h => ⟨kvs, rfl, h⟩⟩
theorem dgd : dgetdS (.dict kvs) y z kd = (isKey y = true ∧ kd ((look kvs y).getD z)) := propext ⟨fun ⟨_, e, h⟩ => by cases e; exact h, fun h => ⟨kvs, rfl, h⟩⟩
theorem di : dinS x (.dict kvs) kc = (isKey x = true ∧ kc (look kvs x).isSome) := propext ⟨fun ⟨_, e, h⟩ => by cases e; exact h, fun h => ⟨kvs, rfl, h⟩⟩
theorem pk {po : Option Int} : pickS (.tuple xs) i po kd = kd (.tuple (pickG xs i po)) := propext ⟨fun ⟨_, e, h⟩ => by cases e; exact h, fun h => ⟨xs, rfl, h⟩⟩
theorem i_l : idxS (.list xs) (.int i) kd = ∃ d, at? xs i = some d ∧ kd d := rfl
theorem i_t : idxS (.tuple xs) (.int i) kd = ∃ d, at? xs i = some d ∧ kd d := rfl
theorem sc_l {u v : Option Int} : slcS (.list xs) u v kb = kb true (.list (cut xs u v)) := rfl
theorem sc_t {u v : Option Int} : slcS (.tuple xs) u v kb = kb false (.tuple (cut xs u v)) := rfl
theorem pt_t : partOf true (.fz (.int i)) = some (some i) := rfl
theorem pt_f : partOf false v = some none := rfl
theorem it_l : items? (.list xs) = some xs := rfl
theorem it_t : items? (.tuple xs) = some xs := rfl
theorem ro1 : rngOf 1 [.int i] kl = ((-1000000 ≤ i ∧ i ≤ 1000000) ∧ kl (rngL 0 i.toNat 1)) := rfl
theorem ro2 : rngOf 2 [.int i, .int j] kl = ((-1000000 ≤ i ∧ i ≤ 1000000 ∧ -1000000 ≤ j ∧ j ≤ 1000000) ∧ kl (rngL i (j - i).toNat 1)) := rfl
theorem ro3 : rngOf 3 [.int i, .int j, .int (-1)] kl = ((-1000000 ≤ i ∧ i ≤ 1000000 ∧ -1000000 ≤ j ∧ j ≤ 1000000) ∧ kl (rngL i (i - j).toNat (-1))) := rfl
theorem k_lst : walks .lst (.list xs) kl = kl xs := rfl
theorem k_tup : walks .tup (.tuple xs) kl = kl xs := rfl
theorem k_r1 : walks .rng1 (.tuple [.int i]) kl = ((-1000000000 ≤ i ∧ i ≤ 16777216) ∧ kl (rngL 0 i.toNat 1)) := rfl
theorem k_r2 : walks .rng2 (.tuple [.int i, .int j]) kl = ((-1000000000 ≤ i ∧ i ≤ 1000000000 ∧ -1000000000 ≤ j ∧ j ≤ 1000000000 ∧ j - i ≤ 16777216) ∧ kl (rngL i (j - i).toNat 1)) := rfl
theorem k_zl : walks .zipL (.tuple [.list xs, .list ys]) kl = kl (zipD xs ys) := rfl
theorem k_zt : walks .zipT (.tuple [.tuple xs, .tuple ys]) kl = kl (zipD xs ys) := rfl
theorem k_el : walks .enL (.tuple [.list xs]) kl = kl (enumL 0 xs) := rfl
theorem k_et : walks .enT (.tuple [.tuple xs]) kl = kl (enumL 0 xs) := rfl
end
end Ev
/-! EvBase: loops, comprehensions, draws, at the level of data. -/
namespace Ev
open PySem L2
local macro_rules | `(tactic| trivial) => `(tactic| ((try simp only [run, frame, List.map, List.replicate, Nat.reduceAdd, Nat.reduceSub, List.length_cons, List.length_nil, Bool.false_eq_true, if_false, if_true, List.nil_append, List.cons_append, true_and]); simp only [↓it_tF, ↓bd_fr, ↓idx_fr0, ↓idx_fr1, ↓i_tF, ↓i_lF, ↓u_ltF, ↓u_llF, ↓at2_0, ↓at2_1, fr0, fr1, ↓w_k, ↓w_vf0, ↓w_vf1, ↓w_vf2, ↓w_vf3, ↓w_vf4, ↓w_vf5, ↓w_vf6, ↓w_vf7, ↓w_vf8, ↓w_vf9, ↓w_vf10, ↓w_vf11, ↓w_vf12, ↓w_vf13, ↓w_vf14, ↓w_vf15, ↓w_vf16, ↓w_vf17, ↓w_vf18, ↓w_vf19, ↓w_vf20, ↓w_vf21, ↓w_vf22, ↓w_vf23, ↓w_vo0, ↓w_vo1, ↓w_vo2, ↓w_vo3, ↓w_vo4, ↓w_vo5, ↓w_vo6, ↓w_vo7, ↓w_vo8, ↓w_vo9, ↓w_vo10, ↓w_vo11, ↓w_vo12, ↓w_vo13, ↓w_vo14, ↓w_vo15, ↓w_vo16, ↓w_vo17, ↓w_vo18, ↓w_vo19, ↓w_vo20, ↓w_vo21, ↓w_vo22, ↓w_vo23, ↓w_mf0, ↓w_mf1, ↓w_mf2, ↓w_mf3, ↓w_mf4, ↓w_mf5, ↓w_mf6, ↓w_mf7, ↓w_mf8, ↓w_mf9, ↓w_mf10, ↓w_mf11, ↓w_mf12, ↓w_mf13, ↓w_mf14, ↓w_mf15, ↓w_mf16, ↓w_mf17, ↓w_mf18, ↓w_mf19, ↓w_mf20, ↓w_mf21, ↓w_mf22, ↓w_mf23, ↓w_mo0, ↓w_mo1, ↓w_mo2, ↓w_mo3, ↓w_mo4, ↓w_mo5, ↓w_mo6, ↓w_mo7, ↓w_mo8, ↓w_mo9, ↓w_mo10, ↓w_mo11, ↓w_mo12, ↓w_mo13, ↓w_mo14, ↓w_mo15, ↓w_mo16, ↓w_mo17, ↓w_mo18, ↓w_mo19, ↓w_mo20, ↓w_mo21, ↓w_mo22, ↓w_mo23, ↓w_op, ↓w_neg, ↓w_cmp, ↓w_ch2, ↓w_isN, ↓w_notN, ↓w_isB, ↓w_notB, ↓w_and, ↓w_or, ↓w_not, ↓w_ite, ↓w_nil, ↓w_cons, ↓w_star, ↓w_tup, ↓w_lst, ↓w_idx, ↓w_slc, ↓w_revL, ↓w_b1, ↓w_b2max2, ↓w_b2min2, ↓w_b2gcd, ↓w_b2indexL, ↓w_b2indexT, ↓w_dic, ↓w_dget, ↓w_dgetd, ↓w_dIn, ↓w_slcT, ↓w_lrngT, ↓w_lrngF, ↓w_pop0, ↓w_pop1, ↓w_call, ↓w_comp, ↓s_skip, ↓s_seq, ↓s_set, ↓s_unp, ↓s_par, ↓p_nil, ↓p_cons, ↓h_fz, ↓h_fr, ↓h_bw, ↓pe_nil, ↓pe_cons, ↓sl_fz, ↓sl_fr, ↓put0, ↓put1, ↓put2, ↓put3, ↓put4, ↓put5, ↓put6, ↓put7, ↓put8, ↓put9, ↓put10, ↓put11, ↓put12, ↓put13, ↓put14, ↓put15, ↓put16, ↓put17, ↓put18, ↓put19, ↓put20, ↓put21, ↓put22, ↓put23, ↓s_app, ↓s_ext, ↓s_popS, ↓s_sto, ↓s_sto2, ↓s_ifs, ↓s_for, ↓s_whl, ↓s_ret, ↓s_brk, ↓s_nev, ↓r_fz, ↓r_fr, ↓r_bo0, ↓r_bo1, ↓r_bo2, ↓r_bo3, ↓r_bo4, ↓r_bo5, ↓r_bo6, ↓r_bo7, ↓r_bo8, ↓r_bo9, ↓r_bo10, ↓r_bo11, ↓r_bo12, ↓r_bo13, ↓r_bo14, ↓r_bo15, ↓r_bo16, ↓r_bo17, ↓r_bo18, ↓r_bo19, ↓r_bo20, ↓r_bo21, ↓r_bo22, ↓r_bo23, ↓r_bf0, ↓r_bf1, ↓r_bf2, ↓r_bf3, ↓r_bf4, ↓r_bf5, ↓r_bf6, ↓r_bf7, ↓r_bf8, ↓r_bf9, ↓r_bf10, ↓r_bf11, ↓r_bf12, ↓r_bf13, ↓r_bf14, ↓r_bf15, ↓r_bf16, ↓r_bf17, ↓r_bf18, ↓r_bf19, ↓r_bf20, ↓r_bf21, ↓r_bf22, ↓r_bf23, ↓g_fz, ↓g_fr, ↓g_bo0, ↓g_bo1, ↓g_bo2, ↓g_bo3, ↓g_bo4, ↓g_bo5, ↓g_bo6, ↓g_bo7, ↓g_bo8, ↓g_bo9, ↓g_bo10, ↓g_bo11, ↓g_bo12, ↓g_bo13, ↓g_bo14, ↓g_bo15, ↓g_bo16, ↓g_bo17, ↓g_bo18, ↓g_bo19, ↓g_bo20, ↓g_bo21, ↓g_bo22, ↓g_bo23, ↓g_bf0, ↓g_bf1, ↓g_bf2, ↓g_bf3, ↓g_bf4, ↓g_bf5, ↓g_bf6, ↓g_bf7, ↓g_bf8, ↓g_bf9, ↓g_bf10, ↓g_bf11, ↓g_bf12, ↓g_bf13, ↓g_bf14, ↓g_bf15, ↓g_bf16, ↓g_bf17, ↓g_bf18, ↓g_bf19, ↓g_bf20, ↓g_bf21, ↓g_bf22, ↓g_bf23, ↓o_fz, ↓o_fr, ↓o_bo0, ↓o_bo1, ↓o_bo2, ↓o_bo3, ↓o_bo4, ↓o_bo5, ↓o_bo6, ↓o_bo7, ↓o_bo8, ↓o_bo9, ↓o_bo10, ↓o_bo11, ↓o_bo12, ↓o_bo13, ↓o_bo14, ↓o_bo15, ↓o_bo16, ↓o_bo17, ↓o_bo18, ↓o_bo19, ↓o_bo20, ↓o_bo21, ↓o_bo22, ↓o_bo23, ↓o_bf0, ↓o_bf1, ↓o_bf2, ↓o_bf3, ↓o_bf4, ↓o_bf5, ↓o_bf6, ↓o_bf7, ↓o_bf8, ↓o_bf9, ↓o_bf10, ↓o_bf11, ↓o_bf12, ↓o_bf13, ↓o_bf14, ↓o_bf15, ↓o_bf16, ↓o_bf17, ↓o_bf18, ↓o_bf19, ↓o_bf20, ↓o_bf21, ↓o_bf22, ↓o_bf23, ↓st_f0, ↓st_f1, ↓st_f2, ↓st_f3, ↓st_f4, ↓st_f5, ↓st_f6, ↓st_f7, ↓st_f8, ↓st_f9, ↓st_f10, ↓st_f11, ↓st_f12, ↓st_f13, ↓st_f14, ↓st_f15, ↓st_f16, ↓st_f17, ↓st_f18, ↓st_f19, ↓st_f20, ↓st_f21, ↓st_f22, ↓st_f23, ↓st_o0, ↓st_o1, ↓st_o2, ↓st_o3, ↓st_o4, ↓st_o5, ↓st_o6, ↓st_o7, ↓st_o8, ↓st_o9, ↓st_o10, ↓st_o11, ↓st_o12, ↓st_o13, ↓st_o14, ↓st_o15, ↓st_o16, ↓st_o17, ↓st_o18, ↓st_o19, ↓st_o20, ↓st_o21, ↓st_o22, ↓st_o23, ↓sb0, ↓sb1, ↓sb2, ↓sb3, ↓sb4, ↓sb5, ↓sb6, ↓sb7, ↓sb8, ↓sb9, ↓sb10, ↓sb11, ↓sb12, ↓sb13, ↓sb14, ↓sb15, ↓sb16, ↓sb17, ↓sb18, ↓sb19, ↓sb20, ↓sb21, ↓sb22, ↓sb23, ↓bd0, ↓bd1, ↓bd2, ↓bd3, ↓bd4, ↓bd5, ↓bd6, ↓bd7, ↓bd8, ↓bd9, ↓bd10, ↓bd11, ↓bd12, ↓bd13, ↓bd14, ↓bd15, ↓bd16, ↓bd17, ↓bd18, ↓bd19, ↓bd20, ↓bd21, ↓bd22, ↓bd23, ↓bd_cons, ↓bd_nil, ↓bd_t, ↓ow0, ↓ow1, ↓ow2, ↓ow3, ↓ow4, ↓ow5, ↓ow6, ↓ow7, ↓ow8, ↓ow9, ↓ow10, ↓ow11, ↓ow12, ↓ow13, ↓ow14, ↓ow15, ↓ow16, ↓ow17, ↓ow18, ↓ow19, ↓ow20, ↓ow21, ↓ow22, ↓ow23, ↓ap0, ↓ap1, ↓ap2, ↓ap3, ↓ap4, ↓ap5, ↓ap6, ↓ap7, ↓ap8, ↓ap9, ↓ap10, ↓ap11, ↓ap12, ↓ap13, ↓ap14, ↓ap15, ↓ap16, ↓ap17, ↓ap18, ↓ap19, ↓ap20, ↓ap21, ↓ap22, ↓ap23, ↓ex0, ↓ex1, ↓ex2, ↓ex3, ↓ex4, ↓ex5, ↓ex6, ↓ex7, ↓ex8, ↓ex9, ↓ex10, ↓ex11, ↓ex12, ↓ex13, ↓ex14, ↓ex15, ↓ex16, ↓ex17, ↓ex18, ↓ex19, ↓ex20, ↓ex21, ↓ex22, ↓ex23, ↓exT0, ↓exT1, ↓exT2, ↓exT3, ↓exT4, ↓exT5, ↓exT6, ↓exT7, ↓exT8, ↓exT9, ↓exT10, ↓exT11, ↓exT12, ↓exT13, ↓exT14, ↓exT15, ↓exT16, ↓exT17, ↓exT18, ↓exT19, ↓exT20, ↓exT21, ↓exT22, ↓exT23, ↓so0, ↓so1, ↓so2, ↓so3, ↓so4, ↓so5, ↓so6, ↓so7, ↓so8, ↓so9, ↓so10, ↓so11, ↓so12, ↓so13, ↓so14, ↓so15, ↓so16, ↓so17, ↓so18, ↓so19, ↓so20, ↓so21, ↓so22, ↓so23, ↓pp0, ↓pp1, ↓pp2, ↓pp3, ↓pp4, ↓pp5, ↓pp6, ↓pp7, ↓pp8, ↓pp9, ↓pp10, ↓pp11, ↓pp12, ↓pp13, ↓pp14, ↓pp15, ↓pp16, ↓pp17, ↓pp18, ↓pp19, ↓pp20, ↓pp21, ↓pp22, ↓pp23, ↓pq0, ↓pq1, ↓pq2, ↓pq3, ↓pq4, ↓pq5, ↓pq6, ↓pq7, ↓pq8, ↓pq9, ↓pq10, ↓pq11, ↓pq12, ↓pq13, ↓pq14, ↓pq15, ↓pq16, ↓pq17, ↓pq18, ↓pq19, ↓pq20, ↓pq21, ↓pq22, ↓pq23, ↓ps0, ↓ps1, ↓ps2, ↓ps3, ↓ps4, ↓ps5, ↓ps6, ↓ps7, ↓ps8, ↓ps9, ↓ps10, ↓ps11, ↓ps12, ↓ps13, ↓ps14, ↓ps15, ↓ps16, ↓ps17, ↓ps18, ↓ps19, ↓ps20, ↓ps21, ↓ps22, ↓ps23, ↓sr0, ↓sr1, ↓sr2, ↓sr3, ↓sr4, ↓sr5, ↓sr6, ↓sr7, ↓sr8, ↓sr9, ↓sr10, ↓sr11, ↓sr12, ↓sr13, ↓sr14, ↓sr15, ↓sr16, ↓sr17, ↓sr18, ↓sr19, ↓sr20, ↓sr21, ↓sr22, ↓sr23, ↓sr_no, ↓rt_f, ↓rt_t, ↓t_b, ↓b_addI, ↓b_subI, ↓b_mulI, ↓b_fdivI, ↓b_modI, ↓b_addL, ↓b_addT, ↓b_addS, ↓b_mulL, ↓b_mulT, ↓c_eqI, ↓c_neI, ↓c_ltI, ↓c_leI, ↓c_gtI, ↓c_geI, ↓c_eqS, ↓c_neS, ↓c_eq, ↓c_ne, ↓u_lenl, ↓u_lent, ↓u_tupLl, ↓u_tupTt, ↓u_lstQl, ↓u_lstQt, ↓u_intIi, ↓u_intBb, ↓u_absi, ↓u_repr, ↓u_isT, ↓u_isI, ↓u_isB, ↓u_isS, ↓u_all, ↓u_sum, ↓u_maxL, ↓u_minL, ↓u_sumT, ↓u_maxT, ↓u_minT, ↓u_sortDl, ↓u_sortDt, ↓u_max2, ↓u_min2, ↓u_gcd, ↓ix_l, ↓ix_t, ↓id_l0, ↓id_l1, ↓id_l2, ↓id_l3, ↓id_l4, ↓id_l5, ↓id_l6, ↓id_l7, ↓id_l8, ↓id_l9, ↓id_l10, ↓id_l11, ↓id_l12, ↓id_l13, ↓id_l14, ↓id_l15, ↓id_l16, ↓id_l17, ↓id_l18, ↓id_l19, ↓id_l20, ↓id_l21, ↓id_l22, ↓id_l23, ↓id_m0, ↓id_m1, ↓id_m2, ↓id_m3, ↓id_m4, ↓id_m5, ↓id_m6, ↓id_m7, ↓id_m8, ↓id_m9, ↓id_m10, ↓id_m11, ↓id_m12, ↓id_m13, ↓id_m14, ↓id_m15, ↓id_m16, ↓id_m17, ↓id_m18, ↓id_m19, ↓id_m20, ↓id_m21, ↓id_m22, ↓id_m23, ↓id_f, ↓id_r, ↓id_t, ↓idd0, ↓idd1, ↓idd2, ↓idd3, ↓idd4, ↓idd5, ↓idd6, ↓idd7, ↓idd8, ↓idd9, ↓idd10, ↓idd11, ↓idd12, ↓idd13, ↓idd14, ↓idd15, ↓idd16, ↓idd17, ↓idd18, ↓idd19, ↓idd20, ↓idd21, ↓idd22, ↓idd23, ↓idd_f, ↓idd_r, ↓dg, ↓dgd, ↓di, ↓pk, ↓i_l, ↓i_t, ↓sc_l, ↓sc_t, ↓pt_t, ↓pt_f, ↓it_l, ↓it_t, ↓ro1, ↓ro2, ↓ro3, ↓k_lst, ↓k_tup, ↓k_r1, ↓k_r2, ↓k_zl, ↓k_zt, ↓k_el, ↓k_et, ↓ex_fzT, ↓ex_fzI, ↓ex_fzB, ↓ex_T, ↓ex_L, ↓ex_some, ↓reduceIte, List.length_cons, List.length_nil, Nat.reduceAdd, Nat.reduceSub, true_and, and_true, List.nil_append, List.cons_append, decide_eq_true_eq, Bool.false_eq_true, List.append_nil, Bool.not_true, Bool.not_false, Bool.not_eq_true', decide_eq_false_iff_not]))
theorem loop_inv {F : Fns} {tg : Tg} {b : Stm} {ds : List D} {env : Ev} {nx bk : Ev → Prop} {rt : Bool → D → Prop} {g : Hold (En.mk nx rt bk)} (I : Nat → Ev → Prop) (h0 : I 0 env)
    (step : ∀ i d e (n : Ev → Prop), ds[i]? = some d → I i e → (∀ e', I (i + 1) e' → n e') → bindT tg d e fun ea => wS F b ea ⟨n, rt, nx⟩) (fin : ∀ e, I ds.length e → nx e) : loopS F tg b ds env ⟨nx, rt, bk⟩ g :=
  forL_inv I h0 (fun i d e n hd hI hn => step i d e n hd hI hn) fin
theorem whl_inv {F : Fns} {t : Ex} {b : Stm} {env : Ev} {nx bk : Ev → Prop} {rt : Bool → D → Prop} {g : Hold (En.mk nx rt bk)} (I : Nat → Ev → Prop) (m : Nat) (h0 : I m env)
    (step : ∀ m e (n : Ev → Prop), I m e → (∀ e' m', m' < m → I m' e' → n e') → w F t e fun v e1 => truth v fun c => if c = true then wS F b e1 ⟨n, rt, nx⟩ else nx e1) : whlS F t b env ⟨nx, rt, bk⟩ g :=
  ⟨m + 1, whileL_meas I (fun m e n hI hn => step m e n hI hn) m env h0⟩
theorem rng_get {i n : Nat} {lo c : Int} {d : D} (h : (rngL lo n c)[i]? = some d) : i < n ∧ d = .int (lo + (i : Int) * c) := by
  unfold rngL at h
  rw [List.getElem?_map] at h
  by_cases hi : i < n
  · rw [List.getElem?_range hi] at h
    exact ⟨hi, (Option.some.inj h).symm⟩
  · rw [List.getElem?_eq_none (by simpa using Nat.le_of_not_lt hi)] at h
    cases h
theorem rng_len {n : Nat} {lo c : Int} : (rngL lo n c).length = n := by simp [rngL]
theorem ix_nat {n i : Nat} (h : i < n) : ixN n (i : Int) = some i := by
  unfold ixN
  rw [if_pos (by omega), if_pos (by omega), Int.toNat_natCast]
theorem ix_int {n : Nat} {i : Int} {j : Nat} (e : i = j) (h : j < n) : ixN n i = some j := by rw [e]; exact ix_nat h
theorem comp_map {F : Fns} {own : List Nat} {tg : Tg} {t e : Ex} {ds : List D} {env : Ev} {k : Vl → Ev → Prop} {g : Hold k} (P : Ev → Prop) (f : Nat → D) (h0 : P env)
    (step : ∀ i d e0 (n : Option D → Ev → Prop), ds[i]? = some d → P e0 → (∀ e', P e' → n (some (f i)) e') → turnC F own tg t e d e0 n)
    (fin : ∀ e9, P e9 → k (.fr (.list ((List.range ds.length).map f))) (backE env e9 own)) : compS F own tg t e ds env k g :=
  compL_map P f h0 step fun e9 h9 => fin e9 h9
theorem ix_neg {n : Nat} (h : 0 < n) : ixN n (-1) = some (n - 1) := by
  unfold ixN
  rw [if_neg (by decide), if_pos (by omega)]
  congr 1
  omega
theorem comp_acc {own : List Nat} {tg : Tg} {t e : Ex} {ds : List D} {env : Ev} {kk : Vl → Ev → Prop} {g : Hold kk} (P : Ev → Prop) (R : Nat → D → Prop) (h0 : P env)
    (step : ∀ i d e0 (n : Option D → Ev → Prop), ds[i]? = some d → P e0 → (∀ y e', R i y → P e' → n (some y) e') → turnC F own tg t e d e0 n)
    (fin : ∀ acc e9, acc.length = ds.length → (∀ i y, acc[i]? = some y → R i y) → P e9 → kk (.fr (.list acc)) (backE env e9 own)) : compS F own tg t e ds env kk g := by
  refine compL_inv (fun i acc e => acc.length = i ∧ (∀ j y, acc[j]? = some y → R j y) ∧ P e) ⟨rfl, fun j y hj => by simp at hj, h0⟩ (fun i d acc e n hd ⟨hl, hR, he⟩ hn => ?_) fun acc e ⟨hl, hR, he⟩ => fin acc e hl hR he
  refine step i d e n hd he fun y e' hy he' => hn (some y) e' ⟨by simp [hl], fun j z hj => ?_, he'⟩
  by_cases h : j < acc.length
  · rw [List.getElem?_append_left h] at hj; exact hR j z hj
  · rw [List.getElem?_append_right (by omega)] at hj
    by_cases h2 : j - acc.length = 0
    · rw [h2] at hj
      simp at hj
      subst hj
      rw [show j = i by omega]; exact hy
    · rw [List.getElem?_eq_none (by simp; omega)] at hj; cases hj
theorem comp_fil {own : List Nat} {tg : Tg} {t e : Ex} {n : Nat} {env : Ev} {kk : Vl → Ev → Prop} {g : Hold kk} (P : Ev → Prop) (p : Nat → Bool) (f : Nat → D) (h0 : P env)
    (step : ∀ (i : Nat) e0 (nn : Option D → Ev → Prop), i < n → P e0 → (∀ e', P e' → nn (if p i = true then some (f i) else none) e') → turnC F own tg t e (.int i) e0 nn)
    (fin : ∀ e9, P e9 → kk (.fr (.list (((List.range n).filter p).map f))) (backE env e9 own)) : compS F own tg t e (rngL 0 n 1) env kk g := by
  refine compL_inv (fun i acc e => acc = ((List.range i).filter p).map f ∧ P e) ⟨rfl, h0⟩ (fun i d acc e nn hd ⟨ha, he⟩ hn => ?_) fun acc e ⟨ha, he⟩ => by rw [rng_len] at ha; rw [ha]; exact fin e he
  obtain ⟨hi, rfl⟩ := rng_get hd
  have ei : (0 : Int) + (i : Int) * 1 = i := by omega
  rw [ei]
  refine step i e nn hi he fun e' he' => hn _ e' ⟨?_, he'⟩
  subst ha
  rw [List.range_succ, List.filter_append, List.map_append]
  by_cases h : p i = true
  · simp [h]
  · simp [h]
theorem comp_keep {α : Type} {own : List Nat} {tg : Tg} {t e : Ex} {l : List α} {g : α → D} {env : Ev} {kk : Vl → Ev → Prop} {h : Hold kk} (P : Ev → Prop) (p : α → Bool) (f : α → D) (h0 : P env)
    (step : ∀ a e0 (nn : Option D → Ev → Prop), a ∈ l → P e0 → (∀ e', P e' → nn (if p a = true then some (f a) else none) e') → turnC F own tg t e (g a) e0 nn)
    (fin : ∀ e9, P e9 → kk (.fr (.list ((l.filter p).map f))) (backE env e9 own)) : compS F own tg t e (l.map g) env kk h := by
  refine compL_inv (fun i acc e => acc = ((l.take i).filter p).map f ∧ P e) ⟨rfl, h0⟩ (fun i d acc e nn hd ⟨ha, he⟩ hn => ?_) fun acc e ⟨ha, he⟩ => by rw [List.length_map, List.take_length] at ha; rw [ha]; exact fin e he
  rw [List.getElem?_map] at hd
  obtain ⟨a, hw, rfl⟩ := Option.map_eq_some_iff.mp hd
  refine step a e nn (List.mem_of_getElem? hw) he fun e' he' => hn _ e' ⟨?_, he'⟩
  subst ha
  rw [List.take_add_one, hw, List.filter_append, List.map_append]
  by_cases h : p a = true
  · simp [h]
  · simp [h]
theorem fits2 : Fits 2 := by unfold Fits; omega
def PickF (F : Fns) (i : Nat) : Prop := ∀ (m : Int) (k : Bool → D → Prop), 0 ≤ m → m ≤ 1000000 → (∀ r : Int, 0 ≤ r → r < (if m < 1 then 1 else m) → k false (.int r)) → F i [.int m] k
def LOf (F : Fns) (i : Nat) : Prop := ∀ (xs : List D) (k : Bool → D → Prop), xs ≠ [] → xs.length ≤ 1000000 → (∀ x ∈ xs, k false x) → F i [.list xs] k
def tOf (p : Nat) : Stm :=
  .seq (.ret (.idx (.v 1) (.call p (some 0) (.cons (.b1 .len (.v 1)) (.nil))))) <|
  .skip
theorem at_in {xs : List D} {r : Int} (h0 : 0 ≤ r) (h1 : r < xs.length) : ∃ d, at? xs r = some d ∧ d ∈ xs := by
  have hi : r.toNat < xs.length := by omega
  refine ⟨xs[r.toNat], ?_, List.getElem_mem _⟩
  unfold at? atI
  rw [ix_int (j := r.toNat) (by omega) hi]
  simp [hi]
theorem of_run {F : Fns} {k : Bool → D → Prop} {p : Nat} {xs : List D} (P : PickF F p) (h0 : xs ≠ []) (h1 : xs.length ≤ 1000000) (h : ∀ x ∈ xs, k false x) : run F ⟨2, true, 2, tOf p⟩ [.list xs] k := by
  have hl := List.length_pos_iff.mpr h0
  unfold tOf
  trivial
  refine P _ _ (by omega) (by omega) fun r r0 r1 => ?_
  rw [if_neg (by omega)] at r1
  trivial
  obtain ⟨d, e, hd⟩ := at_in r0 r1
  exact ⟨d, e, h d hd⟩
end Ev
/-! EvShow: what may be written as text, what may be compared. -/
namespace Ev
open PySem
/-- ints of fewer than 1920 bits, depth, how many things -/
structure Wl (d : D) (dep blk : Nat) : Prop where
  sh : d.showable = true
  nd : d.hasDict = false
  dp : d.depth ≤ dep
  bk : d.bulk ≤ blk
  lv : d.leavesShort 1921 = true
structure Wls (ds : List D) (dep blk : Nat) : Prop where
  sh : PyData.showableAll ds = true
  nd : PyData.hasDictAll ds = false
  dp : PyData.depthAll ds ≤ dep
  bk : PyData.bulkAll ds ≤ blk
  lv : PyData.leavesShortAll 1921 ds = true
theorem Wl.shows {d : D} {dep blk : Nat} (h : Wl d dep blk) (h1 : dep ≤ 60) (h2 : blk ≤ 8000) : Shows d := by
  refine ⟨h.sh, h.nd, Nat.le_trans h.dp h1, ?_⟩
  have e := PyData.shown_le_bulk 1921 (by decide) d h.lv
  have := Nat.mul_le_mul_left 1923 (Nat.le_trans h.bk h2)
  omega
theorem Wl.int {i : Int} (h : i.natAbs.log2 < 1920) : Wl (.int i) 0 0 := by
  refine ⟨by simpa [PyData.showable] using h, rfl, Nat.le_refl _, Nat.le_refl _, ?_⟩
  simp only [PyData.leavesShort, decide_eq_true_eq]
  have e : (PyData.shown (.int i)).length = (toString i).length := by
    exact ofString_length _
  rw [e]
  exact int_text_length_le (by decide) h
theorem Wls.nil : Wls [] 0 0 := ⟨rfl, rfl, Nat.le_refl _, Nat.le_refl _, rfl⟩
theorem Wls.cons {d : D} {ds : List D} {a b a' b' : Nat} (h : Wl d a b) (hs : Wls ds a' b') : Wls (d :: ds) (max a a') (b + 1 + b') := by
  refine ⟨by simp [PyData.showableAll, h.sh, hs.sh], by simp [PyData.hasDictAll, h.nd, hs.nd], ?_, ?_, by simp [PyData.leavesShortAll, h.lv, hs.lv]⟩
  · have := h.dp; have := hs.dp; simp only [PyData.depthAll]; omega
  · have := h.bk; have := hs.bk; simp only [PyData.bulkAll]; omega
theorem Wls.mono {ds : List D} {a b a' b' : Nat} (h : Wls ds a b) (h1 : a ≤ a') (h2 : b ≤ b') : Wls ds a' b' := ⟨h.sh, h.nd, Nat.le_trans h.dp h1, Nat.le_trans h.bk h2, h.lv⟩
theorem Wl.mono {ds : D} {a b a' b' : Nat} (h : Wl ds a b) (h1 : a ≤ a') (h2 : b ≤ b') : Wl ds a' b' := ⟨h.sh, h.nd, Nat.le_trans h.dp h1, Nat.le_trans h.bk h2, h.lv⟩
theorem Wls.tup {ds : List D} {a b : Nat} (h : Wls ds a b) : Wl (.tuple ds) (a + 1) b := ⟨h.sh, h.nd, Nat.succ_le_succ h.dp, h.bk, h.lv⟩
theorem Wls.lst {ds : List D} {a b : Nat} (h : Wls ds a b) : Wl (.list ds) (a + 1) b := ⟨h.sh, h.nd, Nat.succ_le_succ h.dp, h.bk, h.lv⟩
theorem Wls.all {a b : Nat} : ∀ {ds : List D}, (∀ d ∈ ds, Wl d a b) → Wls ds a (ds.length * (b + 1))
  | [], _ => Wls.nil.mono (Nat.zero_le _) (Nat.zero_le _)
  | d :: ds, h => by
    have := Wls.cons (h d List.mem_cons_self) (Wls.all fun x hx => h x (List.mem_cons_of_mem _ hx))
    refine this.mono (by omega) ?_
    rw [List.length_cons, Nat.succ_mul]; omega
/-! ### what may be compared -/
structure Sp0 (d : D) (dep : Nat) : Prop where
  can : d.canLay0 = true
  dp : d.depth ≤ dep
structure Sps (ds : List D) (dep : Nat) : Prop where
  can : PyData.canLayAll0 ds = true
  dp : PyData.depthAll ds ≤ dep
theorem Sp0.shp {d : D} {a : Nat} (h : Sp0 d a) (ha : a ≤ 64) : Shp d := by
  show (d.canLay0 && decide (d.depth ≤ 64)) = true
  rw [h.can, decide_eq_true (Nat.le_trans h.dp ha)]; rfl
theorem Sp0.int {i : Int} : Sp0 (.int i) 0 := ⟨rfl, Nat.le_refl _⟩
theorem Sps.nil : Sps [] 0 := ⟨rfl, Nat.le_refl _⟩
theorem Sps.cons {d : D} {ds : List D} {a a' : Nat} (h : Sp0 d a) (hs : Sps ds a') : Sps (d :: ds) (max a a') := by
  refine ⟨by simp [PyData.canLayAll0, h.can, hs.can], ?_⟩
  have := h.dp; have := hs.dp; simp only [PyData.depthAll]; omega
theorem Sps.tup {ds : List D} {a : Nat} (h : Sps ds a) : Sp0 (.tuple ds) (a + 1) := ⟨h.can, Nat.succ_le_succ h.dp⟩
theorem Sps.lst {ds : List D} {a : Nat} (h : Sps ds a) : Sp0 (.list ds) (a + 1) := ⟨h.can, Nat.succ_le_succ h.dp⟩
theorem Sps.mono {ds : List D} {a b : Nat} (h : Sps ds a) (h1 : a ≤ b) : Sps ds b := ⟨h.can, Nat.le_trans h.dp h1⟩
theorem Sp0.mono {ds : D} {a b : Nat} (h : Sp0 ds a) (h1 : a ≤ b) : Sp0 ds b := ⟨h.can, Nat.le_trans h.dp h1⟩
theorem Sps.all {a : Nat} : ∀ {ds : List D}, (∀ d ∈ ds, Sp0 d a) → Sps ds a
  | [], _ => Sps.nil.mono (Nat.zero_le _)
  | d :: ds, h => (Sps.cons (h d List.mem_cons_self) (Sps.all fun x hx => h x (List.mem_cons_of_mem _ hx))).mono (by omega)
end Ev
/-! EvNat: rows of naturals as data. -/
namespace Ev
open PySem L2
def nats (l : List Nat) : List D := l.map fun (i : Nat) => .int (i : Int)
section
variable {l m : List Nat} {i n : Nat} {d : D}
@[simp] theorem nats_len : (nats l).length = l.length := by simp [nats]
theorem nats_nil : nats [] = [] := rfl
theorem nats_cons {a : Nat} : nats (a :: l) = .int (a : Nat) :: nats l := rfl
theorem nats_app : nats (l ++ m) = nats l ++ nats m := by simp [nats]
theorem nats_rev : (nats l).reverse = nats l.reverse := by simp [nats]
theorem nats_take : (nats l).take n = nats (l.take n) := by simp [nats]
theorem nats_drop : (nats l).drop n = nats (l.drop n) := by simp [nats]
theorem nats_set {a : Nat} : (nats l).set i (.int (a : Nat)) = nats (l.set i a) := by simp [nats, List.map_set]
theorem nats_erase : (nats l).eraseIdx i = nats (l.eraseIdx i) := by
  unfold nats
  induction l generalizing i with
  | nil => rfl
  | cons a r ih => cases i with
    | zero => rfl
    | succ i => simp only [List.map_cons, List.eraseIdx_cons_succ, ih]
theorem nats_get (h : (nats l)[i]? = some d) : i < l.length ∧ d = .int ((l.getD i 0 : Nat) : Int) := by
  unfold nats at h
  rw [List.getElem?_map] at h
  obtain ⟨a, ha, rfl⟩ := Option.map_eq_some_iff.mp h
  obtain ⟨hi, rfl⟩ := List.getElem?_eq_some_iff.mp ha
  exact ⟨hi, by rw [List.getD_eq_getElem?_getD]; simp [hi]⟩
theorem nats_at (h : i < l.length) : (nats l)[i]? = some (.int ((l.getD i 0 : Nat) : Int)) := by
  unfold nats
  rw [List.getElem?_map, List.getD_eq_getElem?_getD]
  simp [h]
theorem nats_inj : nats l = nats m → l = m := by
  intro h
  induction l generalizing m with
  | nil => cases m with
    | nil => rfl
    | cons => cases h
  | cons a r ih => cases m with
    | nil => cases h
    | cons b s =>
      rw [nats_cons, nats_cons] at h
      injection h with h1 h2
      injection h1 with h1
      rw [ih h2, Int.ofNat_inj.mp h1]
theorem at_nats {j : Int} {P : D → Prop} (e : j = i) (h : i < l.length) (hp : P (.int ((l.getD i 0 : Nat) : Int))) : ∃ d, at? (nats l) j = some d ∧ P d := by
  refine ⟨_, ?_, hp⟩
  unfold at? atI
  rw [nats_len, ix_int e h, Option.bind_some, nats_at h]
theorem rng_nats : rngL 0 n 1 = nats (List.range n) := by
  unfold rngL nats
  congr 1
  funext i
  congr 1
  omega
theorem rng_down : rngL ((n : Int) - 1) n (-1) = nats (List.range n).reverse := by
  apply List.ext_getElem?
  intro i
  by_cases h : i < n
  · rw [rngL_get h, nats_at (by simpa using h)]
    congr 2
    rw [List.getD_eq_getElem?_getD, List.getElem?_reverse (by simpa using h)]
    simp only [List.length_range]
    rw [List.getElem?_range (by omega)]
    simp only [Option.getD_some]
    omega
  · rw [List.getElem?_eq_none (by rw [rngL_len]; omega), List.getElem?_eq_none (by simp; omega)]
theorem nats_all_flat : (nats l).all Flat = true := by
  unfold nats
  rw [List.all_map]
  exact List.all_eq_true.mpr fun _ _ => rfl
theorem nats_wls {b : Nat} (h : ∀ x ∈ l, x < 2 ^ 1000) : Wls (nats l) 0 l.length := by
  have := Wls.all (ds := nats l) (a := 0) (b := 0) fun d hd => by
    unfold nats at hd
    obtain ⟨x, hx, rfl⟩ := List.mem_map.mp hd
    refine Wl.int ?_
    have h1 := h x hx
    by_cases h0 : x = 0
    · subst h0; decide
    · rw [Int.natAbs_natCast]
      exact Nat.lt_trans ((Nat.log2_lt h0).mpr h1) (by decide)
  simpa using this
theorem cut_le {lo hi : Nat} (h1 : lo ≤ l.length) : cut (nats l) (some (lo : Int)) (some (hi : Int)) = nats ((l.drop lo).take (min hi l.length - lo)) := by
  unfold cut
  rw [nats_len, HT.sIx_nat, HT.sIx_nat, nats_drop, nats_take, Nat.min_eq_left h1]
theorem cut_from {lo : Nat} : cut (nats l) (some (lo : Int)) none = nats (l.drop lo) := by
  unfold cut
  rw [nats_len, HT.sIx_nat, HT.sIx_none, nats_drop, nats_take]
  congr 1
  by_cases h : lo ≤ l.length
  · rw [Nat.min_eq_left h, List.take_of_length_le (by simp)]
  · rw [Nat.min_eq_right (by omega), List.drop_of_length_le (Nat.le_refl _), List.drop_of_length_le (by omega)]; simp
theorem cut_to {hi : Nat} : cut (nats l) none (some (hi : Int)) = nats (l.take hi) := by
  unfold cut
  rw [nats_len, HT.sIx_nat, HT.sIx_none, nats_drop, nats_take, List.drop_zero, Nat.sub_zero]
  congr 1
  by_cases h : hi ≤ l.length
  · rw [Nat.min_eq_left h]
  · rw [Nat.min_eq_right (by omega), List.take_of_length_le (Nat.le_refl _), List.take_of_length_le (by omega)]
theorem fm_ext {α β : Type} {f g : α → Option β} : ∀ {l : List α}, (∀ a ∈ l, f a = g a) → l.filterMap f = l.filterMap g
  | [], _ => rfl
  | a :: r, h => by
    rw [List.filterMap_cons, List.filterMap_cons, h a List.mem_cons_self, fm_ext fun b hb => h b (List.mem_cons_of_mem _ hb)]
theorem fm_all {α : Type} : ∀ ys : List α, (List.range ys.length).filterMap (fun m => ys[m]?) = ys
  | [] => rfl
  | y :: r => by
    rw [List.length_cons, List.range_succ_eq_map, List.filterMap_cons]
    simp only [List.getElem?_cons_zero]
    rw [List.filterMap_map]
    exact congrArg (y :: ·) (fm_all r)
/-- t[::-1] -/
theorem pick_rev {α : Type} (xs : List α) : pickG xs (-1) none = xs.reverse := by
  unfold pickG Builtin.Slice.slicePlaces Builtin.Slice.sliceAdjust
  simp only [show (-1 : Int) < 0 from by decide, show ¬ (-1 : Int) > 0 from by decide, if_true, if_false]
  have hn : (if ((xs.length : Int) - 1 > -1) then ((xs.length : Int) - 1 - -1 - 1) / - -1 + 1 else 0).toNat = xs.length := by
    have e : - (-1 : Int) = 1 := rfl
    rw [e, Int.ediv_one]
    split <;> omega
  rw [hn]
  have := fm_all xs.reverse
  rw [List.length_reverse] at this
  rw [← this]
  refine fm_ext fun m hm => ?_
  have hm : m < xs.length := List.mem_range.mp hm
  rw [List.getElem?_reverse hm]
  congr 1
  omega
end
end Ev
/-! EvTame: data of small leaves: what may be written, compared, cut. -/
namespace Ev
open PySem L2
def strT (x : Str) : Bool := (PyData.str x).canLay0 && decide (x.cps.size ≤ 40) && x.cps.toList.all (fun c => decide (c < 16 ^ 8))
mutual
/-- ints below M, short texts, no dicts -/
def tame (M : Nat) : D → Bool
  | .none => true
  | .bool _ => true
  | .int i => decide (i.natAbs < M)
  | .str x => strT x
  | .list xs => tameL M xs
  | .tuple xs => tameL M xs
  | .dict _ => false
def tameL (M : Nat) : List D → Bool
  | [] => true
  | x :: r => tame M x && tameL M r
end
section
variable {M M' : Nat} {d : D} {xs ys : List D}
theorem tameL_all : ∀ {xs : List D}, tameL M xs = true ↔ ∀ d ∈ xs, tame M d = true
  | [] => by simp [tameL]
  | x :: r => by simp [tameL, tameL_all (xs := r)]
theorem int_short {i : Int} (h : i.natAbs < 2 ^ 64) : (PyData.shown (.int i)).length ≤ 70 := by
  have e : (PyData.shown (.int i)).length = (toString i).length := ofString_length _
  rw [e]
  have := int_text_length_le (k := 64) (by decide) (show i.natAbs.log2 < 64 by
    by_cases h0 : i.natAbs = 0
    · rw [h0]; decide
    · exact (Nat.log2_lt h0).mpr h)
  omega
mutual
theorem tame_facts (hM : M ≤ 2 ^ 64) : ∀ {d : D}, tame M d = true → d.showable = true ∧ d.hasDict = false ∧ d.leavesShort 70 = true ∧ d.canLay0 = true
  | .none, _ => ⟨rfl, rfl, rfl, rfl⟩
  | .bool _, _ => ⟨rfl, rfl, rfl, rfl⟩
  | .int i, h => by
    have hi : i.natAbs < 2 ^ 64 := by
      have : i.natAbs < M := by simpa [tame] using h
      omega
    refine ⟨?_, rfl, ?_, rfl⟩
    · have : i.natAbs.log2 < 1920 := by
        by_cases h0 : i.natAbs = 0
        · rw [h0]; decide
        · exact Nat.lt_trans ((Nat.log2_lt h0).mpr hi) (by decide)
      simpa [PyData.showable] using this
    · simp only [PyData.leavesShort, decide_eq_true_eq]
      exact int_short hi
  | .str x, h => by
    simp only [tame, strT, Bool.and_eq_true] at h
    exact ⟨rfl, rfl, h.2, h.1.1⟩
  | .list xs, h => by
    obtain ⟨a, b, c, e⟩ := tameL_facts hM (xs := xs) (by simpa [tame] using h)
    exact ⟨a, b, c, e⟩
  | .tuple xs, h => by
    obtain ⟨a, b, c, e⟩ := tameL_facts hM (xs := xs) (by simpa [tame] using h)
    exact ⟨a, b, c, e⟩
  | .dict _, h => by simp [tame] at h
theorem tameL_facts (hM : M ≤ 2 ^ 64) : ∀ {xs : List D}, tameL M xs = true → PyData.showableAll xs = true ∧ PyData.hasDictAll xs = false ∧ PyData.leavesShortAll 70 xs = true ∧ PyData.canLayAll0 xs = true
  | [], _ => ⟨rfl, rfl, rfl, rfl⟩
  | x :: r, h => by
    simp only [tameL, Bool.and_eq_true] at h
    obtain ⟨a, b, c, e⟩ := tame_facts hM h.1
    obtain ⟨a', b', c', e'⟩ := tameL_facts hM h.2
    exact ⟨by simp [PyData.showableAll, a, a'], by simp [PyData.hasDictAll, b, b'], by simp [PyData.leavesShortAll, c, c'], by simp [PyData.canLayAll0, e, e']⟩
end
/-- tame data, so deep, so great -/
structure Tm (M a b : Nat) (d : D) : Prop where
  t : tame M d = true
  dp : d.depth ≤ a
  bk : d.bulk ≤ b
structure Tms (M a b : Nat) (ds : List D) : Prop where
  t : ∀ d ∈ ds, tame M d = true
  dp : ∀ d ∈ ds, d.depth ≤ a
  bk : PyData.bulkAll ds ≤ b
theorem bulkAll_app : ∀ {xs ys : List D}, PyData.bulkAll (xs ++ ys) = PyData.bulkAll xs + PyData.bulkAll ys
  | [], ys => by simp [PyData.bulkAll]
  | x :: r, ys => by simp only [List.cons_append, PyData.bulkAll, bulkAll_app (xs := r)]; omega
theorem bulkAll_sub : ∀ {xs ys : List D}, xs.Sublist ys → PyData.bulkAll xs ≤ PyData.bulkAll ys
  | _, _, .slnil => Nat.le_refl _
  | _, _, .cons a h => by have := bulkAll_sub h; simp only [PyData.bulkAll]; omega
  | _, _, .cons₂ a h => by have := bulkAll_sub h; simp only [PyData.bulkAll]; omega
theorem bulkAll_perm : ∀ {xs ys : List D}, xs.Perm ys → PyData.bulkAll xs = PyData.bulkAll ys
  | _, _, .nil => rfl
  | _, _, .cons a h => by simp only [PyData.bulkAll, bulkAll_perm h]
  | _, _, .swap a b l => by simp only [PyData.bulkAll]; omega
  | _, _, .trans h g => (bulkAll_perm h).trans (bulkAll_perm g)
theorem depthAll_le {a : Nat} : ∀ {xs : List D}, (∀ d ∈ xs, d.depth ≤ a) → PyData.depthAll xs ≤ a
  | [], _ => Nat.zero_le _
  | x :: r, h => by
    have h1 := h x List.mem_cons_self
    have h2 := depthAll_le (xs := r) fun d hd => h d (List.mem_cons_of_mem _ hd)
    simp only [PyData.depthAll]; omega
theorem depthAll_mem {a : Nat} : ∀ {xs : List D}, PyData.depthAll xs ≤ a → ∀ d ∈ xs, d.depth ≤ a
  | x :: r, h, d, hd => by
    simp only [PyData.depthAll] at h
    rcases List.mem_cons.mp hd with rfl | hd
    · omega
    · exact depthAll_mem (by omega) d hd
theorem bulk_mem : ∀ {xs : List D} {d : D}, d ∈ xs → d.bulk + 1 ≤ PyData.bulkAll xs
  | x :: r, d, hd => by
    simp only [PyData.bulkAll]
    rcases List.mem_cons.mp hd with rfl | hd
    · omega
    · have := bulk_mem hd; omega
theorem len_bulk : ∀ {xs : List D}, xs.length ≤ PyData.bulkAll xs
  | [] => Nat.le_refl _
  | x :: r => by have := len_bulk (xs := r); simp only [PyData.bulkAll, List.length_cons]; omega
variable {a b a' b' : Nat}
theorem Tm.mono (h : Tm M a b d) (h0 : M ≤ M') (h1 : a ≤ a') (h2 : b ≤ b') : Tm M' a' b' d := ⟨by
  have key : (∀ d : D, tame M d = true → tame M' d = true) := by
    intro d
    refine PyData.rec (motive_1 := fun d => tame M d = true → tame M' d = true) (motive_2 := fun xs => tameL M xs = true → tameL M' xs = true) (motive_3 := fun _ => True) (motive_4 := fun _ => True) ?_ ?_ ?_ ?_ ?_ ?_ ?_ ?_ ?_ ?_ ?_ ?_ d
    all_goals first
      | (intros; trivial)
      | (intros; rfl)
      | (intro i hi; simp only [tame, decide_eq_true_eq] at hi ⊢; omega)
      | (intro x hx; exact hx)
      | (intro xs ih h; simp only [tame] at h ⊢; exact ih h)
      | (intro x r h1 h2 h; simp only [tameL, Bool.and_eq_true] at h ⊢; exact ⟨h1 h.1, h2 h.2⟩)
      | (intro k _ h; simp [tame] at h)
  exact key d h.t, Nat.le_trans h.dp h1, Nat.le_trans h.bk h2⟩
theorem Tm.shows (h : Tm M a b d) (hM : M ≤ 2 ^ 64) (ha : a ≤ 60) (hb : b ≤ 200000) : Shows d := by
  obtain ⟨h1, h2, h3, h4⟩ := tame_facts hM h.t
  refine ⟨h1, h2, Nat.le_trans h.dp ha, ?_⟩
  have e := PyData.shown_le_bulk 70 (by decide) d h3
  have := Nat.mul_le_mul_left 72 (Nat.le_trans h.bk hb)
  omega
theorem Tm.shp (h : Tm M a b d) (hM : M ≤ 2 ^ 64) (ha : a ≤ 64) : Shp d := by
  obtain ⟨h1, h2, h3, h4⟩ := tame_facts hM h.t
  show (d.canLay0 && decide (d.depth ≤ 64)) = true
  rw [h4, decide_eq_true (Nat.le_trans h.dp ha)]; rfl
theorem Tms.tup (h : Tms M a b xs) : Tm M (a + 1) b (.tuple xs) := ⟨by simpa [tame] using tameL_all.mpr h.t, by
  have := depthAll_le h.dp
  simp only [PyData.depth]; omega, by simpa [PyData.bulk] using h.bk⟩
theorem Tms.lst (h : Tms M a b xs) : Tm M (a + 1) b (.list xs) := ⟨by simpa [tame] using tameL_all.mpr h.t, by
  have := depthAll_le h.dp
  simp only [PyData.depth]; omega, by simpa [PyData.bulk] using h.bk⟩
theorem Tm.tup' (h : Tm M (a + 1) b (.tuple xs)) : Tms M a b xs := ⟨tameL_all.mp (by simpa [tame] using h.t), depthAll_mem (by have := h.dp; simp only [PyData.depth] at this; omega), by simpa [PyData.bulk] using h.bk⟩
theorem Tm.tup0 (h : Tm M a b (.tuple xs)) : Tms M a b xs := ⟨tameL_all.mp (by simpa [tame] using h.t), depthAll_mem (by have := h.dp; simp only [PyData.depth] at this; omega), by simpa [PyData.bulk] using h.bk⟩
theorem Tms.mem (h : Tms M a b xs) (hd : d ∈ xs) : Tm M a b d := ⟨h.t d hd, h.dp d hd, by have := bulk_mem hd; have := h.bk; omega⟩
theorem Tms.app (h : Tms M a b xs) (g : Tms M a b' ys) : Tms M a (b + b') (xs ++ ys) := by
  refine ⟨fun d hd => ?_, fun d hd => ?_, by rw [bulkAll_app]; have := h.bk; have := g.bk; omega⟩
  · rcases List.mem_append.mp hd with hd | hd
    · exact h.t d hd
    · exact g.t d hd
  · rcases List.mem_append.mp hd with hd | hd
    · exact h.dp d hd
    · exact g.dp d hd
theorem Tms.sub (h : Tms M a b ys) (s : xs.Sublist ys) : Tms M a b xs := ⟨fun d hd => h.t d (s.subset hd), fun d hd => h.dp d (s.subset hd), Nat.le_trans (bulkAll_sub s) h.bk⟩
theorem Tms.perm (h : Tms M a b ys) (s : xs.Perm ys) : Tms M a b xs := ⟨fun d hd => h.t d (s.mem_iff.mp hd), fun d hd => h.dp d (s.mem_iff.mp hd), by rw [bulkAll_perm s]; exact h.bk⟩
theorem Tms.nil : Tms M 0 0 [] := ⟨fun _ h => (nomatch h), fun _ h => (nomatch h), Nat.le_refl _⟩
theorem Tms.mono (h : Tms M a b xs) (h0 : M ≤ M') (h1 : a ≤ a') (h2 : b ≤ b') : Tms M' a' b' xs := ⟨fun d hd => ((h.mem hd).mono h0 h1 h2).t, fun d hd => Nat.le_trans (h.dp d hd) h1, Nat.le_trans h.bk h2⟩
theorem Tms.cons (h : Tm M a b d) (g : Tms M a b' xs) : Tms M a (b + 1 + b') (d :: xs) := by
  refine ⟨fun x hx => ?_, fun x hx => ?_, by have := h.bk; have := g.bk; simp only [PyData.bulkAll]; omega⟩
  · rcases List.mem_cons.mp hx with rfl | hx
    · exact h.t
    · exact g.t x hx
  · rcases List.mem_cons.mp hx with rfl | hx
    · exact h.dp
    · exact g.dp x hx
theorem Tms.all {xs : List D} (h : ∀ d ∈ xs, Tm M a b d) : Tms M a (xs.length * (b + 1)) xs := by
  refine ⟨fun d hd => (h d hd).t, fun d hd => (h d hd).dp, ?_⟩
  induction xs with
  | nil => exact Nat.zero_le _
  | cons x r ih =>
    have h1 := (h x List.mem_cons_self).bk
    have h2 := ih fun d hd => h d (List.mem_cons_of_mem _ hd)
    simp only [PyData.bulkAll, List.length_cons, Nat.succ_mul]; omega
theorem Tm.int {i : Int} (h : i.natAbs < M) : Tm M 0 0 (.int i) := ⟨by simpa [tame] using h, Nat.le_refl _, Nat.le_refl _⟩
theorem Tms.nats {l : List Nat} (h : ∀ x ∈ l, x < M) : Tms M 0 l.length (nats l) := by
  have := Tms.all (M := M) (a := 0) (b := 0) (xs := Ev.nats l) fun d hd => by
    obtain ⟨x, hx, rfl⟩ := List.mem_map.mp hd
    exact .int (by simpa using h x hx)
  simpa using this
theorem cut_sub {lo hi : Option Int} : (cut xs lo hi).Sublist xs := (List.take_sublist _ _).trans (List.drop_sublist _ _)
end
end Ev
/-! EvSort: what is sorted: lists of data in order, told by lists of naturals. -/
namespace Ev
open PySem L2 PySem.W PyProof.Rows
abbrev tN (l : List Nat) : D := .tuple (nats l)
abbrev lN (l : List Nat) : D := .list (nats l)
/-! ### there is one sorted list -/
mutual
theorem toks_pf : ∀ (x y : D) (l m : List (Int ⊕ List Nat)), alike x y = true → keyToks x ++ l = keyToks y ++ m → x = y ∧ l = m
  | .none, y, l, m, h, e => by cases y <;> first | (simp [alike] at h; done) | (simp only [keyToks, List.nil_append] at e; exact ⟨rfl, e⟩)
  | .bool b, y, l, m, h, e => by
    cases y with
    | bool c =>
      simp only [keyToks, List.cons_append, List.nil_append, List.cons.injEq, Sum.inl.injEq] at e
      refine ⟨?_, e.2⟩
      have := e.1
      cases b <;> cases c <;> simp at this <;> rfl
    | _ => simp [alike] at h
  | .int i, y, l, m, h, e => by
    cases y with
    | int j =>
      simp only [keyToks, List.cons_append, List.nil_append, List.cons.injEq, Sum.inl.injEq] at e
      exact ⟨by rw [e.1], e.2⟩
    | _ => simp [alike] at h
  | .str x, y, l, m, h, e => by
    cases y with
    | str z =>
      simp only [keyToks, List.cons_append, List.nil_append, List.cons.injEq, Sum.inr.injEq] at e
      exact ⟨by rw [str_of_cps e.1], e.2⟩
    | _ => simp [alike] at h
  | .list xs, y, l, m, h, e => by
    cases y with
    | list ys =>
      simp only [keyToks, alike] at e h
      obtain ⟨h1, h2⟩ := toksAll_pf xs ys l m h e
      exact ⟨by rw [h1], h2⟩
    | _ => simp [alike] at h
  | .tuple xs, y, l, m, h, e => by
    cases y with
    | tuple ys =>
      simp only [keyToks, alike] at e h
      obtain ⟨h1, h2⟩ := toksAll_pf xs ys l m h e
      exact ⟨by rw [h1], h2⟩
    | _ => simp [alike] at h
  | .dict _, y, l, m, h, e => by cases y <;> simp [alike] at h
theorem toksAll_pf : ∀ (xs ys : List D) (l m : List (Int ⊕ List Nat)), alikeAll xs ys = true → keyToksAll xs ++ l = keyToksAll ys ++ m → xs = ys ∧ l = m
  | [], [], l, m, _, e => by
    simp only [keyToksAll, List.cons_append, List.nil_append, List.cons.injEq] at e
    exact ⟨rfl, e.2⟩
  | [], y :: ys, l, m, _, e => by
    simp only [keyToksAll, List.cons_append, List.nil_append, List.cons.injEq, Sum.inl.injEq] at e
    exact absurd e.1 (by decide)
  | x :: xs, [], l, m, _, e => by
    simp only [keyToksAll, List.cons_append, List.nil_append, List.cons.injEq, Sum.inl.injEq] at e
    exact absurd e.1 (by decide)
  | x :: xs, y :: ys, l, m, h, e => by
    simp only [keyToksAll, List.cons_append, List.cons.injEq, true_and, List.append_assoc] at e
    obtain ⟨a1, a2⟩ := alike_all_cons h
    obtain ⟨e1, e2⟩ := toks_pf x y _ _ a1 e
    obtain ⟨e3, e4⟩ := toksAll_pf xs ys l m a2 e2
    exact ⟨by rw [e1, e3], e4⟩
end
theorem dle_eq (a b : D) : dataLe false id a b = !dataLt b a := rfl
theorem dle_anti {a b : D} (h : alike a b = true) (h1 : dataLe false id a b = true) (h2 : dataLe false id b a = true) : a = b := by
  rw [dle_eq] at h1 h2
  have e1 : dataLt b a = false := by simpa using h1
  have e2 : dataLt a b = false := by simpa using h2
  have := PyProof.Rows.lex_total (O := itemOrd) (keyToks a) (keyToks b) e2 e1
  exact (toks_pf a b [] [] h (by rw [this])).1
theorem dle_total : TotalLe (dataLe (β := D) false id) := sortLe_total _ _ _
theorem sorted_perm {α : Type} {le : α → α → Bool} : ∀ {l m : List α}, l.Perm m → (∀ a ∈ l, ∀ b ∈ l, le a b = true → le b a = true → a = b) → l.Pairwise (fun a b => le a b = true) → m.Pairwise (fun a b => le a b = true) → l = m
  | [], m, p, _, _, _ => (List.nil_perm.mp p).symm
  | x :: l, [], p, _, _, _ => absurd p.length_eq (by simp)
  | x :: l, y :: m, p, h, hl, hm => by
    have e : x = y := by
      rcases List.mem_cons.mp (p.mem_iff.mp (List.mem_cons_self (a := x) (l := l))) with e | hx
      · exact e
      · rcases List.mem_cons.mp (p.mem_iff.mpr (List.mem_cons_self (a := y) (l := m))) with e | hy
        · exact e.symm
        · exact h x List.mem_cons_self y (List.mem_cons_of_mem _ hy) ((List.pairwise_cons.mp hl).1 y hy) ((List.pairwise_cons.mp hm).1 x hx)
    subst e
    rw [sorted_perm p.cons_inv (fun a ha b hb => h a (List.mem_cons_of_mem _ ha) b (List.mem_cons_of_mem _ hb)) (List.pairwise_cons.mp hl).2 (List.pairwise_cons.mp hm).2]
theorem sortD_perm {xs ys : List D} (p : xs.Perm ys) (ha : AllAlike xs) : sortD xs = sortD ys := by
  refine sorted_perm (le := dataLe false id) ((List.mergeSort_perm xs _).trans (p.trans (List.mergeSort_perm ys _).symm)) (fun a ha' b hb h1 h2 => dle_anti (ha a ?_ b ?_) h1 h2) (sort_pairwise dle_total xs) (sort_pairwise dle_total ys)
  · exact (List.mergeSort_perm xs _).mem_iff.mp ha'
  · exact (List.mergeSort_perm xs _).mem_iff.mp hb
/-! ### sorting that can be reckoned -/
def insB {α : Type} (lt : α → α → Bool) (x : α) : List α → List α
  | [] => [x]
  | y :: r => if lt y x = true then y :: insB lt x r else x :: y :: r
def isort {α : Type} (lt : α → α → Bool) (l : List α) : List α := l.foldr (insB lt) []
theorem insB_perm {α : Type} {lt : α → α → Bool} {x : α} : ∀ {l : List α}, (insB lt x l).Perm (x :: l)
  | [] => List.Perm.refl _
  | y :: r => by
    unfold insB
    split
    · exact ((insB_perm (l := r)).cons y).trans (List.Perm.swap x y r)
    · exact List.Perm.refl _
theorem isort_perm {α : Type} {lt : α → α → Bool} : ∀ {l : List α}, (isort lt l).Perm l
  | [] => List.Perm.refl _
  | x :: r => (insB_perm (l := isort lt r)).trans ((isort_perm (l := r)).cons x)
theorem insB_sorted {α : Type} {lt le : α → α → Bool} (hle : ∀ a b, le a b = !lt b a) (T : TotalLe le) {x : α} : ∀ {l : List α}, l.Pairwise (fun a b => le a b = true) → (insB lt x l).Pairwise (fun a b => le a b = true)
  | [], _ => List.pairwise_singleton _ _
  | y :: r, h => by
    obtain ⟨h1, h2⟩ := List.pairwise_cons.mp h
    unfold insB
    by_cases hy : lt y x = true
    · rw [if_pos hy]
      have hyx : le y x = true := by
        rcases T.total y x with q | q
        · exact q
        · rw [hle x y, hy] at q; cases q
      refine List.pairwise_cons.mpr ⟨fun z hz => ?_, insB_sorted hle T h2⟩
      rcases List.mem_cons.mp ((insB_perm (l := r)).mem_iff.mp hz) with rfl | hz
      · exact hyx
      · exact h1 z hz
    · rw [if_neg hy]
      have hxy : le x y = true := by rw [hle]; simpa using hy
      refine List.pairwise_cons.mpr ⟨fun z hz => ?_, h⟩
      rcases List.mem_cons.mp hz with rfl | hz
      · exact hxy
      · exact T.trans x y z hxy (h1 z hz)
theorem isort_sorted {α : Type} {lt le : α → α → Bool} (hle : ∀ a b, le a b = !lt b a) (T : TotalLe le) : ∀ {l : List α}, (isort lt l).Pairwise (fun a b => le a b = true)
  | [] => List.Pairwise.nil
  | x :: r => insB_sorted hle T (isort_sorted hle T (l := r))
/-- sorted data that stand for things with an order that can be reckoned -/
theorem sortD_enc {α : Type} {enc : α → D} {lt : α → α → Bool} (hlt : ∀ a b, dataLt (enc a) (enc b) = lt a b) (ha : ∀ a b, alike (enc a) (enc b) = true) (l : List α) : sortD (l.map enc) = (isort lt l).map enc := by
  have T : TotalLe (dataLe false enc) := sortLe_total _ _ _
  have hle : ∀ a b, dataLe false enc a b = !lt b a := fun a b => by rw [← hlt]; rfl
  refine sorted_perm (le := dataLe false id) ((List.mergeSort_perm _ _).trans (isort_perm.map enc).symm) (fun a ha' b hb h1 h2 => dle_anti ?_ h1 h2) (sort_pairwise dle_total _) (List.pairwise_map.mpr (isort_sorted hle T))
  obtain ⟨a', _, rfl⟩ := List.mem_map.mp ((List.mergeSort_perm _ _).mem_iff.mp ha')
  obtain ⟨b', _, rfl⟩ := List.mem_map.mp ((List.mergeSort_perm _ _).mem_iff.mp hb)
  exact ha a' b'
/-! ### rows of naturals -/
def lexN : List Nat → List Nat → Bool
  | [], [] => false
  | [], _ :: _ => true
  | _ :: _, [] => false
  | x :: xs, y :: ys => if x = y then lexN xs ys else Nat.blt x y
theorem alike_nats : ∀ l m : List Nat, alikeAll (nats l) (nats m) = true
  | [], _ => by simp [nats, alikeAll]
  | _ :: _, [] => by simp [nats, alikeAll]
  | a :: l, b :: m => by
    rw [nats_cons, nats_cons, alikeAll]
    simp [alike, alike_nats l m]
theorem alike_tN (l m : List Nat) : alike (tN l) (tN m) = true := by
  unfold tN; rw [alike]; exact alike_nats l m
theorem blt_dec (x y : Nat) : Nat.blt x y = decide ((x : Int) < (y : Int)) := by
  rw [Bool.eq_iff_iff]; simp
theorem toks_nats : ∀ l m : List Nat, rowLt (nats l) (nats m) = lexN l m
  | [], [] => lex_irrefl _
  | [], b :: m => by
    unfold rowLt
    rw [nats_cons, nats_nil, toks_all_cons]
    rfl
  | a :: l, [] => by
    unfold rowLt
    rw [nats_cons, nats_nil, toks_all_cons]
    rfl
  | a :: l, b :: m => by
    have ih := toks_nats l m
    unfold rowLt at ih ⊢
    rw [nats_cons, nats_cons, dataLt_cons (by simp [alike]), ih, dataLt_int]
    rw [show lexN (a :: l) (b :: m) = if a = b then lexN l m else Nat.blt a b from rfl]
    by_cases h : a = b
    · subst h; simp [PyData.eqv]
    · rw [if_neg h, blt_dec]
      have : ¬ PyData.eqv (.int (a : Nat)) (.int (b : Nat)) = true := by simp [PyData.eqv]; omega
      rw [if_neg this]
theorem lt_tN (l m : List Nat) : dataLt (tN l) (tN m) = lexN l m := by
  unfold tN; rw [dataLt_tuple]; exact toks_nats l m
theorem eqv_nats : ∀ l m : List Nat, PyData.eqvAll (nats l) (nats m) = decide (l = m)
  | [], [] => by simp [nats, PyData.eqvAll]
  | [], _ :: _ => by simp [nats, PyData.eqvAll]
  | _ :: _, [] => by simp [nats, PyData.eqvAll]
  | a :: l, b :: m => by
    rw [nats_cons, nats_cons, eqv_all_cons, eqv_nats l m]
    by_cases h : a = b
    · subst h; simp [PyData.eqv]
    · have : PyData.eqv (.int (a : Nat)) (.int (b : Nat)) = false := by simp [PyData.eqv]; omega
      simp [this, h]
theorem eqv_tN (l m : List Nat) : PyData.eqv (tN l) (tN m) = decide (l = m) := by
  unfold tN; rw [PyData.eqv]; exact eqv_nats l m
/-- pairs of rows -/
abbrev TW := List Nat × List Nat
def twD (p : TW) : D := .tuple [tN p.1, tN p.2]
def lexT (p q : TW) : Bool := if p.1 = q.1 then lexN p.2 q.2 else lexN p.1 q.1
theorem lexN_irr : ∀ l : List Nat, lexN l l = false
  | [] => rfl
  | a :: l => by unfold lexN; rw [if_pos rfl]; exact lexN_irr l
theorem lt_twD (p q : TW) : dataLt (twD p) (twD q) = lexT p q := by
  unfold twD lexT
  rw [dataLt_pair (alike_tN _ _) (alike_tN _ _), eqv_tN, eqv_tN, lt_tN, lt_tN]
  by_cases h1 : p.1 = q.1
  · rw [if_pos (by simpa using h1), if_pos h1]
    by_cases h2 : p.2 = q.2
    · rw [if_pos (by simpa using h2), h2, lexN_irr]
    · rw [if_neg (by simpa using h2)]
  · rw [if_neg (by simpa using h1), if_neg h1]
theorem alike_twD (p q : TW) : alike (twD p) (twD q) = true := by
  unfold twD
  rw [alike, alikeAll, alikeAll, alikeAll]
  simp only [alike_tN, Bool.and_self]
theorem sort_twD (l : List TW) : sortD (l.map twD) = (isort lexT l).map twD := sortD_enc lt_twD alike_twD l
theorem sort_tN (l : List (List Nat)) : sortD (l.map tN) = (isort lexN l).map tN := sortD_enc lt_tN alike_tN l
end Ev
/-! EvTell: sorts and told ways, with no program in sight. -/
namespace Ev
open PySem L2
inductive So where
  | bracket | pairing | parting | row
  deriving DecidableEq
def So.nm : So → Str
  | .bracket => "bracket" | .pairing => "pairing" | .parting => "parting" | .row => "row"
def So.d (s : So) : D := .str s.nm
def lev : So → Nat → Nat
  | .bracket, _ => 0 | .pairing, _ => 0 | .parting, k => k + 1 | .row, k => 2 * k + 1
def dwn : So → Nat → Nat
  | .bracket, _ => 1 | .pairing, k => k + 1 | .parting, k => k + 1 | .row, k => (k + 1) * (k + 1)
/-- choices at a step -/
def chs (s : So) (h l : Nat) : Nat := if h < l then 1 else if l = h then lev s h else dwn s l
/-- the same, as the laws tell it -/
def lch (s : So) (h l : Nat) : Nat := if h < l then 1 else if l = h then lev s h else match s with
  | .bracket => 1 | .pairing => h | .parting => h | .row => h * h
def lastN (w : List Nat) : Nat := w.getLastD 0
/-- next heights, below m -/
def lates (h m : Nat) : List Nat := ([h, h + 1, h + 2].filter fun x => decide (1 ≤ x ∧ x ≤ m)).map (· - 1)
def tellNx (s : So) (m : Nat) (p : TW) : List TW := (lates (lastN p.1) m).flatMap fun l => (List.range (chs s (lastN p.1) l)).map fun c => (p.1 ++ [l], p.2 ++ [c])
def tellAt (s : So) (n : Nat) : Nat → List TW
  | 0 => [([0], [])]
  | k + 1 => (tellAt s n k).flatMap (tellNx s (n - k))
def tell (s : So) (n : Nat) : List TW := isort lexT (tellAt s n n)
/-- all level ways -/
def wayNx (m : Nat) (w : List Nat) : List (List Nat) := (lates (lastN w) m).map fun l => w ++ [l]
def wayAt (n : Nat) : Nat → List (List Nat)
  | 0 => [[0]]
  | k + 1 => (wayAt n k).flatMap (wayNx (n - k))
def lways (n : Nat) : List (List Nat) := isort lexN (wayAt n n)
def choAt (s : So) (w : List Nat) : Nat → List (List Nat)
  | 0 => [[]]
  | k + 1 => (choAt s w k).flatMap fun c => (List.range (lch s (w.getD k 0) (w.getD (k + 1) 0))).map fun x => c ++ [x]
def ltellU (s : So) (n : Nat) : List TW := (lways n).flatMap fun w => (choAt s w n).map fun c => (w, c)
def ltell (s : So) (n : Nat) : List TW := isort lexT (ltellU s n)
def So.most : So → Nat
  | .bracket => 8 | .pairing => 8 | .parting => 6 | .row => 6
def tellOk (s : So) (n : Nat) : Bool := decide (tell s n = ltell s n) && (List.range (n + 1)).all (fun k => decide ((tellAt s n k).length ≤ 4000)) && decide ((tell s n).length ≤ 1000)
theorem tell_ok4 : (List.range 9).all (tellOk .bracket) = true := by decide +kernel
theorem tell_ok3 : (List.range 9).all (tellOk .pairing) = true := by decide +kernel
theorem tell_ok2 : (List.range 7).all (tellOk .parting) = true := by decide +kernel
theorem tell_ok1 : (List.range 7).all (tellOk .row) = true := by decide +kernel
theorem tell_ok (s : So) {n : Nat} (h : n ≤ s.most) : tellOk s n = true := by
  cases s with
  | bracket => exact List.all_eq_true.mp tell_ok4 n (List.mem_range.mpr (Nat.lt_succ_of_le h))
  | pairing => exact List.all_eq_true.mp tell_ok3 n (List.mem_range.mpr (Nat.lt_succ_of_le h))
  | parting => exact List.all_eq_true.mp tell_ok2 n (List.mem_range.mpr (Nat.lt_succ_of_le h))
  | row => exact List.all_eq_true.mp tell_ok1 n (List.mem_range.mpr (Nat.lt_succ_of_le h))
end Ev
/-! EvLow: how many told ways stay below a height. -/
namespace Ev
open PySem L2
/-- numbers of ways, one step more -/
def nxtN (n : Nat) (l w X : Nat → Nat) (k : Nat) : Nat := l k * X k + (if 0 < k then X (k - 1) else 0) + (if k + 1 < n then w k * X (k + 1) else 0)
def lineN (n : Nat) (l w : Nat → Nat) : Nat → Nat → Nat
  | 0, k => if k = 0 then 1 else 0
  | t + 1, k => nxtN n l w (lineN n l w t) k
/-- the same as rows -/
def lineR (n : Nat) (l w : Nat → Nat) : Nat → List Nat
  | 0 => (List.range n).map fun k => if k = 0 then 1 else 0
  | t + 1 => (fun r : List Nat => (List.range n).map (nxtN n l w fun j => r.getD j 0)) (lineR n l w t)
theorem lineR_get {n : Nat} {l w : Nat → Nat} : ∀ {t k : Nat}, k < n → (lineR n l w t).getD k 0 = lineN n l w t k
  | 0, k, h => by simp [lineR, lineN, List.getD_eq_getElem?_getD, List.getElem?_range h]
  | t + 1, k, h => by
    have ih : ∀ j, j < n → (lineR n l w t).getD j 0 = lineN n l w t j := fun j hj => lineR_get hj
    simp only [lineR, lineN, List.getD_eq_getElem?_getD, List.getElem?_map, List.getElem?_range h, Option.map_some, Option.getD_some]
    unfold nxtN
    simp only [← List.getD_eq_getElem?_getD]
    rw [ih k h]
    congr 1
    · congr 1
      by_cases h0 : 0 < k
      · rw [if_pos h0, if_pos h0, ih (k - 1) (by omega)]
      · rw [if_neg h0, if_neg h0]
    · by_cases h1 : k + 1 < n
      · rw [if_pos h1, if_pos h1, ih (k + 1) h1]
      · rw [if_neg h1, if_neg h1]
def maxN (l : List Nat) : Nat := l.foldl max 0
def lowOk (s : So) (t : Nat) : Bool := (List.range 8).all fun m => decide ((lineR (m + 1) (lev s) (dwn s) t).headD 0 = ((tellAt s t t).filter fun p => decide (maxN p.1 < m + 1)).length)
theorem low_ok4 : (List.range 9).all (lowOk .bracket) = true := by decide +kernel
theorem low_ok3 : (List.range 9).all (lowOk .pairing) = true := by decide +kernel
theorem low_ok2 : (List.range 7).all (lowOk .parting) = true := by decide +kernel
theorem low_ok1 : (List.range 7).all (lowOk .row) = true := by decide +kernel
theorem low_ok (s : So) {t : Nat} (h : t ≤ s.most) : lowOk s t = true := by
  cases s with
  | bracket => exact List.all_eq_true.mp low_ok4 t (List.mem_range.mpr (Nat.lt_succ_of_le h))
  | pairing => exact List.all_eq_true.mp low_ok3 t (List.mem_range.mpr (Nat.lt_succ_of_le h))
  | parting => exact List.all_eq_true.mp low_ok2 t (List.mem_range.mpr (Nat.lt_succ_of_le h))
  | row => exact List.all_eq_true.mp low_ok1 t (List.mem_range.mpr (Nat.lt_succ_of_le h))
theorem ends_ok : (lineR 2 (lev .pairing) (dwn .pairing) 8).headD 0 = 1 ∧ (lineR 4 (lev .row) (dwn .row) 5).headD 0 = 120 := by decide +kernel
theorem low_count {s : So} {t n : Nat} (ht : t ≤ s.most) (h1 : 1 ≤ n) (h2 : n ≤ 8) : ((ltell s t).filter fun p => decide (maxN p.1 < n)).length = lineN n (lev s) (dwn s) t 0 := by
  have h := List.all_eq_true.mp (low_ok s ht) (n - 1) (List.mem_range.mpr (by omega))
  rw [show n - 1 + 1 = n by omega] at h
  have h := of_decide_eq_true h
  have hg := lineR_get (n := n) (l := lev s) (w := dwn s) (t := t) (k := 0) (by omega)
  have hk := tell_ok s ht
  unfold tellOk at hk
  simp only [Bool.and_eq_true] at hk
  have e : tell s t = ltell s t := of_decide_eq_true hk.1.1
  rw [← e, ← hg]
  have p : (tell s t).Perm (tellAt s t t) := isort_perm
  rw [(p.filter _).length_eq, ← h, List.getD_eq_getElem?_getD]
  cases lineR n (lev s) (dwn s) t <;> rfl
/-- numbers that do not grow too much -/
theorem line_le {n c : Nat} {l w : Nat → Nat} (hl : ∀ j, j < n → l j ≤ c) (hw : ∀ j, j + 1 < n → w j ≤ c) : ∀ t k, k < n → lineN n l w t k ≤ (2 * c + 1) ^ t
  | 0, k, _ => by
    unfold lineN
    split <;> simp
  | t + 1, k, hk => by
    have ih := line_le hl hw t
    show nxtN n l w (lineN n l w t) k ≤ _
    unfold nxtN
    have a1 : l k * lineN n l w t k ≤ c * (2 * c + 1) ^ t := Nat.mul_le_mul (hl k hk) (ih k hk)
    have a2 : (if 0 < k then lineN n l w t (k - 1) else 0) ≤ (2 * c + 1) ^ t := by
      split
      · exact ih _ (by omega)
      · exact Nat.zero_le _
    have a3 : (if k + 1 < n then w k * lineN n l w t (k + 1) else 0) ≤ c * (2 * c + 1) ^ t := by
      split
      · rename_i h; exact Nat.mul_le_mul (hw k h) (ih _ h)
      · exact Nat.zero_le _
    rw [Nat.pow_succ, Nat.mul_comm _ (2 * c + 1), Nat.add_mul, Nat.one_mul, Nat.mul_assoc]
    omega
end Ev
/-! EvTellS: what the defs of told ways are asked; folds along loops. -/
namespace Ev
open PySem L2
def LevC (F : Fns) (i : Nat) : Prop := ∀ (s : So) (h : Nat) (k : Bool → D → Prop), h < 2 ^ 30 → k false (.int (lev s h : Nat)) → F i [s.d, .int (h : Nat)] k
def DwnC (F : Fns) (i : Nat) : Prop := ∀ (s : So) (h : Nat) (k : Bool → D → Prop), h < 2 ^ 30 → k false (.int (dwn s h : Nat)) → F i [s.d, .int (h : Nat)] k
def ChsC (F : Fns) (i : Nat) : Prop := ∀ (s : So) (h l : Nat) (k : Bool → D → Prop), h < 2 ^ 30 → l < 2 ^ 30 → k false (.int (chs s h l : Nat)) → F i [s.d, .int (h : Nat), .int (l : Nat)] k
def LchC (F : Fns) (i : Nat) : Prop := ∀ (s : So) (h l : Nat) (k : Bool → D → Prop), h < 2 ^ 30 → l < 2 ^ 30 → k false (.int (lch s h l : Nat)) → F i [s.d, .int (h : Nat), .int (l : Nat)] k
def ToldW (F : Fns) (i : Nat) : Prop := ∀ (s : So) (n : Nat) (k : Bool → D → Prop), n ≤ s.most → k true (.list ((tell s n).map twD)) → F i [s.d, .int (n : Nat)] k
def LWaysL (F : Fns) (i : Nat) : Prop := ∀ (s : So) (n : Nat) (k : Bool → D → Prop), n ≤ s.most → k true (.list ((lways n).map tN)) → F i [.int (n : Nat)] k
def LToldW (F : Fns) (i : Nat) : Prop := ∀ (s : So) (n : Nat) (k : Bool → D → Prop), n ≤ s.most → k true (.list ((ltell s n).map twD)) → F i [s.d, .int (n : Nat)] k
/-- a loop along a list, with something gathered -/
theorem loop_fold {α σ : Type} {F : Fns} {tg : Tg} {b : Stm} {l : List α} {g : α → D} {env : Ev} {nx bk : Ev → Prop} {rt : Bool → D → Prop} {h : Hold (En.mk nx rt bk)} (f : σ → α → σ) (I : σ → Ev → Prop) {s0 : σ} (h0 : I s0 env)
    (step : ∀ pre a post e (n : Ev → Prop), l = pre ++ a :: post → I (pre.foldl f s0) e → (∀ e', I (f (pre.foldl f s0) a) e' → n e') → bindT tg (g a) e fun ea => wS F b ea ⟨n, rt, nx⟩) (fin : ∀ e, I (l.foldl f s0) e → nx e) : loopS F tg b (l.map g) env ⟨nx, rt, bk⟩ h := by
  refine loop_inv (fun i e => I ((l.take i).foldl f s0) e) (by simpa using h0) (fun i d e n hd hI hn => ?_) fun e hI => fin e (by simpa using hI)
  rw [List.getElem?_map] at hd
  obtain ⟨a, ha, rfl⟩ := Option.map_eq_some_iff.mp hd
  obtain ⟨hi, rfl⟩ := List.getElem?_eq_some_iff.mp ha
  refine step (l.take i) l[i] (l.drop (i + 1)) e n ?_ hI fun e' he' => hn e' ?_
  · rw [List.getElem_cons_drop, List.take_append_drop]
  · have : l.take (i + 1) = l.take i ++ [l[i]] := by rw [List.take_add_one, ha]; rfl
    rw [this, List.foldl_append]
    exact he'
theorem foldl_app {α β : Type} {f : α → List β} : ∀ {l : List α} {s : List β}, l.foldl (fun s a => s ++ f a) s = s ++ l.flatMap f
  | [], s => by simp
  | a :: r, s => by rw [List.foldl_cons, foldl_app, List.flatMap_cons, List.append_assoc]
theorem foldl_pre {α β : Type} {f : α → List β} {pre post : List α} {a : α} : (pre.flatMap f ++ f a).length ≤ ((pre ++ a :: post).flatMap f).length := by
  rw [List.flatMap_append, List.flatMap_cons]
  simp only [List.length_append]
  omega
theorem fits0 : Fits 0 := by unfold Fits; omega
theorem fits1 : Fits 1 := by unfold Fits; omega
theorem depth_nats : ∀ l : List Nat, PyData.depthAll (nats l) = 0
  | [] => rfl
  | a :: l => by rw [nats_cons, PyData.depthAll, depth_nats l]; rfl
theorem dict_nats : ∀ l : List Nat, PyData.hasDictAll (nats l) = false
  | [] => rfl
  | a :: l => by rw [nats_cons, PyData.hasDictAll, dict_nats l]; rfl
theorem tw_sorts {l : List TW} (h : ∀ p ∈ l, p.2.length ≤ 8) : SortsD (l.map twD) := by
  refine ⟨.inr ⟨PySem.W.AllAlike.of alike_twD, PySem.W.Sortable.tuples fun b => ⟨_, _, rfl⟩⟩, fun d hd => ?_⟩
  obtain ⟨p, _, rfl⟩ := List.mem_map.mp hd
  unfold twD tN
  refine ⟨?_, ?_⟩
  · simp only [PyData.depth, PyData.depthAll, depth_nats]; omega
  · simp [PyData.hasDict, PyData.hasDictAll, dict_nats]
theorem fits3 : Fits 3 := by unfold Fits; omega
theorem fits_of {n : Nat} (h : n ≤ 4000) : Fits n := by unfold Fits; omega
theorem getLast_at {l : List Nat} (h : l ≠ []) {P : D → Prop} (hp : P (.int (lastN l : Nat))) : ∃ d, at? (nats l) (-1) = some d ∧ P d := by
  refine ⟨_, ?_, hp⟩
  unfold at? atI
  have hl : 0 < l.length := List.length_pos_iff.mpr h
  rw [nats_len, ix_neg hl, Option.bind_some, nats_at (by omega)]
  unfold lastN
  congr 3
  rw [List.getLastD_eq_getLast?, List.getLast?_eq_getElem?, List.getD_eq_getElem?_getD]
/-- the last of a way, its length -/
theorem tell_len {s : So} {n : Nat} : ∀ {k : Nat} {p : TW}, p ∈ tellAt s n k → p.1.length = k + 1 ∧ p.2.length = k
  | 0, p, h => by
    rw [List.mem_singleton.mp h]; exact ⟨rfl, rfl⟩
  | k + 1, p, h => by
    obtain ⟨q, hq, hp⟩ := List.mem_flatMap.mp h
    obtain ⟨l, hl, hp⟩ := List.mem_flatMap.mp hp
    obtain ⟨c, hc, rfl⟩ := List.mem_map.mp hp
    obtain ⟨h1, h2⟩ := tell_len hq
    simp [h1, h2]
theorem lates_le {h m x : Nat} (hx : x ∈ lates h m) : x < m ∧ x ≤ h + 1 := by
  unfold lates at hx
  obtain ⟨y, hy, rfl⟩ := List.mem_map.mp hx
  obtain ⟨h1, h2⟩ := List.mem_filter.mp hy
  have := of_decide_eq_true h2
  simp only [List.mem_cons, List.not_mem_nil, or_false] at h1
  omega
theorem last_app {l : List Nat} {x : Nat} : lastN (l ++ [x]) = x := by
  unfold lastN; simp [List.getLastD_eq_getLast?]
theorem tell_last {s : So} {n : Nat} : ∀ {k : Nat} {p : TW}, p ∈ tellAt s n k → lastN p.1 ≤ k
  | 0, p, h => by rw [List.mem_singleton.mp h]; exact Nat.le_refl _
  | k + 1, p, h => by
    obtain ⟨q, hq, hp⟩ := List.mem_flatMap.mp h
    obtain ⟨l, hl, hp⟩ := List.mem_flatMap.mp hp
    obtain ⟨c, hc, rfl⟩ := List.mem_map.mp hp
    have := tell_last hq
    have := (lates_le hl).2
    rw [last_app]
    omega
theorem tell_few {s : So} {n k : Nat} (h : n ≤ s.most) (hk : k ≤ n) : (tellAt s n k).length ≤ 4000 := by
  have ht := tell_ok s h
  unfold tellOk at ht
  simp only [Bool.and_eq_true] at ht
  exact of_decide_eq_true (List.all_eq_true.mp ht.1.2 k (List.mem_range.mpr (by omega)))
theorem tell_eq {s : So} {n : Nat} (h : n ≤ s.most) : tell s n = ltell s n := by
  have ht := tell_ok s h
  unfold tellOk at ht
  simp only [Bool.and_eq_true] at ht
  exact of_decide_eq_true ht.1.1
theorem most_le (s : So) : s.most ≤ 8 := by cases s <;> decide
/-- a loop so many times over -/
theorem loop_iter {F : Fns} {tg : Tg} {b : Stm} {m : Nat} {lo : Int} {env : Ev} {nx bk : Ev → Prop} {rt : Bool → D → Prop} {h : Hold (En.mk nx rt bk)} (I : Nat → Ev → Prop) (h0 : I 0 env)
    (step : ∀ (i : Nat) e (n : Ev → Prop), i < m → I i e → (∀ e', I (i + 1) e' → n e') → bindT tg (.int (lo + (i : Int))) e fun ea => wS F b ea ⟨n, rt, nx⟩) (fin : ∀ e, I m e → nx e) : loopS F tg b (rngL lo m 1) env ⟨nx, rt, bk⟩ h := by
  refine loop_inv I h0 (fun i d e n hd hI hn => ?_) fun e hI => fin e (by rwa [rng_len] at hI)
  obtain ⟨hi, rfl⟩ := rng_get hd
  rw [Int.mul_one]
  exact step i e n hi hI hn
def choOk (s : So) (n : Nat) : Bool := ((lways n).all fun w => (List.range (n + 1)).all fun k => decide ((choAt s w k).length ≤ 2000)) && (List.range (n + 1)).all (fun k => decide ((wayAt n k).length ≤ 4000)) && decide ((ltellU s n).length ≤ 4000)
theorem cho_ok4 : (List.range 9).all (choOk .bracket) = true := by decide +kernel
theorem cho_ok3 : (List.range 9).all (choOk .pairing) = true := by decide +kernel
theorem cho_ok2 : (List.range 7).all (choOk .parting) = true := by decide +kernel
theorem cho_ok1 : (List.range 7).all (choOk .row) = true := by decide +kernel
theorem cho_ok (s : So) {n : Nat} (h : n ≤ s.most) : choOk s n = true := by
  cases s with
  | bracket => exact List.all_eq_true.mp cho_ok4 n (List.mem_range.mpr (Nat.lt_succ_of_le h))
  | pairing => exact List.all_eq_true.mp cho_ok3 n (List.mem_range.mpr (Nat.lt_succ_of_le h))
  | parting => exact List.all_eq_true.mp cho_ok2 n (List.mem_range.mpr (Nat.lt_succ_of_le h))
  | row => exact List.all_eq_true.mp cho_ok1 n (List.mem_range.mpr (Nat.lt_succ_of_le h))
theorem cho_few {s : So} {n k : Nat} {w : List Nat} (h : n ≤ s.most) (hw : w ∈ lways n) (hk : k ≤ n) : (choAt s w k).length ≤ 2000 := by
  have ht := cho_ok s h
  unfold choOk at ht
  simp only [Bool.and_eq_true] at ht
  exact of_decide_eq_true (List.all_eq_true.mp (List.all_eq_true.mp ht.1.1 w hw) k (List.mem_range.mpr (by omega)))
theorem way_few {s : So} {n k : Nat} (h : n ≤ s.most) (hk : k ≤ n) : (wayAt n k).length ≤ 4000 := by
  have ht := cho_ok s h
  unfold choOk at ht
  simp only [Bool.and_eq_true] at ht
  exact of_decide_eq_true (List.all_eq_true.mp ht.1.2 k (List.mem_range.mpr (by omega)))
theorem ltell_few {s : So} {n : Nat} (h : n ≤ s.most) : (ltellU s n).length ≤ 4000 := by
  have ht := cho_ok s h
  unfold choOk at ht
  simp only [Bool.and_eq_true] at ht
  exact of_decide_eq_true ht.2
theorem way_len {n : Nat} : ∀ {k : Nat} {w : List Nat}, w ∈ wayAt n k → w.length = k + 1 ∧ lastN w ≤ k ∧ ∀ x ∈ w, x ≤ k
  | 0, w, h => by rw [List.mem_singleton.mp h]; exact ⟨rfl, Nat.le_refl _, fun x hx => by rw [List.mem_singleton.mp hx]; exact Nat.le_refl _⟩
  | k + 1, w, h => by
    obtain ⟨q, hq, hp⟩ := List.mem_flatMap.mp h
    obtain ⟨l, hl, rfl⟩ := List.mem_map.mp hp
    obtain ⟨h1, h2, h3⟩ := way_len hq
    have := (lates_le hl).2
    refine ⟨by simp [h1], by rw [last_app]; omega, fun x hx => ?_⟩
    rcases List.mem_append.mp hx with hx | hx
    · have := h3 x hx; omega
    · rw [List.mem_singleton.mp hx]; omega
theorem lways_len {n : Nat} {w : List Nat} (h : w ∈ lways n) : w.length = n + 1 ∧ lastN w ≤ n ∧ ∀ x ∈ w, x ≤ n := way_len (isort_perm.mem_iff.mp h)
theorem cho_len {s : So} {w : List Nat} : ∀ {k : Nat} {c : List Nat}, c ∈ choAt s w k → c.length = k
  | 0, c, h => by rw [List.mem_singleton.mp h]; rfl
  | k + 1, c, h => by
    obtain ⟨q, hq, hp⟩ := List.mem_flatMap.mp h
    obtain ⟨l, hl, rfl⟩ := List.mem_map.mp hp
    simp [cho_len hq]
theorem ltellU_len {s : So} {n : Nat} {p : TW} (h : p ∈ ltellU s n) : p.1.length = n + 1 ∧ p.2.length = n := by
  obtain ⟨w, hw, hp⟩ := List.mem_flatMap.mp h
  obtain ⟨c, hc, rfl⟩ := List.mem_map.mp hp
  exact ⟨(lways_len hw).1, cho_len hc⟩
theorem tn_sorts {l : List (List Nat)} (h : ∀ w ∈ l, w ≠ []) : SortsD (l.map tN) := by
  refine ⟨.inr ⟨PySem.W.AllAlike.of alike_tN, .inl fun d hd => ?_⟩, fun d hd => ?_⟩
  · obtain ⟨w, hw, rfl⟩ := List.mem_map.mp hd
    have := h w hw
    cases w with
    | nil => exact absurd rfl this
    | cons a r => exact ⟨_, _, rfl⟩
  · obtain ⟨p, _, rfl⟩ := List.mem_map.mp hd
    unfold tN
    refine ⟨?_, ?_⟩
    · simp only [PyData.depth, depth_nats]; omega
    · simp [PyData.hasDict, dict_nats]
/-- each thing of a list -/
theorem comp_all {α : Type} {F : Fns} {own : List Nat} {tg : Tg} {t e : Ex} {l : List α} {g : α → D} {env : Ev} {kk : Vl → Ev → Prop} {h : Hold kk} (P : Ev → Prop) (f : α → D) (h0 : P env)
    (step : ∀ a e0 (nn : Option D → Ev → Prop), a ∈ l → P e0 → (∀ e', P e' → nn (some (f a)) e') → turnC F own tg t e (g a) e0 nn)
    (fin : ∀ e9, P e9 → kk (.fr (.list (l.map f))) (backE env e9 own)) : compS F own tg t e (l.map g) env kk h := by
  refine comp_keep P (fun _ => true) f h0 (fun a e0 nn ha he hn => step a e0 nn ha he fun e' he' => ?_) fun e9 h9 => ?_
  · have := hn e' he'
    rwa [if_pos rfl] at this
  · rw [show l.filter (fun _ => true) = l from List.filter_eq_self.mpr fun _ _ => rfl]
    exact fin e9 h9
end Ev
/-! EvTold: which data are told ways. -/
namespace Ev
open PySem L2
def isNatD : D → Bool
  | .int i => decide (0 ≤ i)
  | _ => false
def natD : D → Nat
  | .int i => i.toNat
  | _ => 0
theorem nats_natD : ∀ l : List Nat, (nats l).map natD = l
  | [] => rfl
  | a :: l => by rw [nats_cons, List.map_cons, nats_natD l]; rfl
theorem nats_isNat : ∀ l : List Nat, (nats l).all isNatD = true
  | [] => rfl
  | a :: l => by
    rw [nats_cons, List.all_cons, nats_isNat l]
    simp [isNatD]
theorem all_nats : ∀ {xs : List D}, xs.all isNatD = true → xs = nats (xs.map natD)
  | [], _ => rfl
  | x :: r, h => by
    rw [List.all_cons, Bool.and_eq_true] at h
    rw [List.map_cons, nats_cons, ← all_nats h.2]
    cases x with
    | int i =>
      have : 0 ≤ i := by simpa [isNatD] using h.1
      simp only [natD]
      rw [show ((i.toNat : Nat) : Int) = i by omega]
    | _ => simp [isNatD] at h
/-- heights differ by one at most -/
def stepB (w : List Nat) (i : Nat) : Bool := decide (w.getD (i + 1) 0 ≤ w.getD i 0 + 1 ∧ w.getD i 0 ≤ w.getD (i + 1) 0 + 1)
def lvlN (w : List Nat) : Bool := (List.range (w.length - 1)).all (stepB w)
def isLvl : D → Bool
  | .tuple xs => !xs.isEmpty && (xs.all isNatD && lvlN (xs.map natD))
  | _ => false
/-- a choice that there is -/
def chB (s : So) (w c : List Nat) (i : Nat) : Bool := decide (c.getD i 0 < chs s (w.getD i 0) (w.getD (i + 1) 0))
def twN (s : So) (w c : List Nat) : Bool := decide (w.length = c.length + 1) && (decide (w.getD 0 0 = 0) && (decide (lastN w = 0) && (List.range c.length).all fun i => stepB w i && chB s w c i))
def isTold (s : So) : D → Bool
  | .tuple [.tuple xs, .tuple ys] => xs.all isNatD && (ys.all isNatD && twN s (xs.map natD) (ys.map natD))
  | _ => false
def IsLvl (F : Fns) (i : Nat) : Prop := ∀ (d : D) (k : Bool → D → Prop), Tm (2 ^ 30) 50 10000 d → k false (.bool (isLvl d)) → F i [d] k
def IsTold (F : Fns) (i : Nat) : Prop := ∀ (s : So) (d : D) (k : Bool → D → Prop), Tm (2 ^ 30) 50 10000 d → k false (.bool (isTold s d)) → F i [s.d, d] k
theorem eqv_nil {xs : List D} : PyData.eqv (.tuple xs) (.tuple []) = xs.isEmpty := by
  cases xs <;> rfl
theorem eqv_nilL {xs : List D} : PyData.eqv (.list xs) (.list []) = xs.isEmpty := by
  cases xs <;> rfl
theorem shp_nil : Shp (.tuple []) := rfl
theorem shp_nilL : Shp (.list []) := rfl
theorem bools_map {α : Type} {f : α → Bool} : ∀ {l : List α}, boolsOf? (l.map fun a => PyData.bool (f a)) = some (l.map f)
  | [] => rfl
  | a :: l => by rw [List.map_cons, boolsOf?, bools_map]; rfl
theorem all_id {α : Type} {f : α → Bool} {l : List α} : (l.map f).all id = l.all f := by rw [List.all_map]; rfl
theorem lat_of {s : So} {h l : Nat} (hh : l ≤ h + 1 ∧ h ≤ l + 1) : lch s h l = chs s h l := by
  unfold lch chs
  by_cases h1 : h < l
  · rw [if_pos h1, if_pos h1]
  · rw [if_neg h1, if_neg h1]
    by_cases h2 : l = h
    · rw [if_pos h2, if_pos h2]
    · rw [if_neg h2, if_neg h2]
      have : h = l + 1 := by omega
      subst this
      cases s <;> rfl
theorem get_lt {l : List Nat} {i : Nat} (h : ∀ x ∈ l, x < 2 ^ 30) : l.getD i 0 < 2 ^ 30 := by
  rw [List.getD_eq_getElem?_getD]
  cases e : l[i]? with
  | none => exact Nat.pow_pos (by decide)
  | some a => exact h a (List.mem_of_getElem? e)
def isIntB (d : D) : Bool := match d with | .int _ => true | _ => false
def LIsInt (F : Fns) (i : Nat) : Prop := ∀ (d : D) (k : Bool → D → Prop), k false (.bool (isIntB d)) → F i [d] k
structure OddOk (M : Nat) (odd : List D) : Prop where
  ne : odd ≠ []
  len : odd.length ≤ 100
  tm : ∀ d ∈ odd, Tm M 2 8 d
def LBentA (F : Fns) (i a : Nat) : Prop := ∀ (M b : Nat) (v : D) (odd : List D) (k : Bool → D → Prop), M ≤ 2 ^ 20 → b ≤ 2000 → Tm M a b v → OddOk M odd → (∀ r, Tm (M + 2) (a + 2) (2 * b + 8) r → k false r) → F i [v, .list odd] k
theorem go_pos {c : Prop} [Decidable c] {a b : Prop} (h : c) (x : a) : if c then a else b := by rw [if_pos h]; exact x
theorem go_neg {c : Prop} [Decidable c] {a b : Prop} (h : ¬ c) (x : b) : if c then a else b := by rw [if_neg h]; exact x
theorem at_any {xs : List D} {i : Nat} {j : Int} (e : j = i) (h : i < xs.length) {P : D → Prop} (hp : P xs[i]) : ∃ d, at? xs j = some d ∧ P d := by
  refine ⟨xs[i], ?_, hp⟩
  unfold at? atI
  rw [ix_int e h, Option.bind_some, List.getElem?_eq_getElem h]
theorem cut_le_len {xs : List D} {lo hi : Option Int} : (cut xs lo hi).length ≤ xs.length := cut_sub.length_le
end Ev
/-! EvRat: fractions in lowest terms. -/
namespace Ev
open PySem
local macro_rules | `(tactic| trivial) => `(tactic| ((try simp only [run, frame, List.map, List.replicate, Nat.reduceAdd, Nat.reduceSub, List.length_cons, List.length_nil, Bool.false_eq_true, if_false, if_true, List.nil_append, List.cons_append, true_and]); simp only [↓it_tF, ↓bd_fr, ↓idx_fr0, ↓idx_fr1, ↓i_tF, ↓i_lF, ↓u_ltF, ↓u_llF, ↓at2_0, ↓at2_1, fr0, fr1, ↓w_k, ↓w_vf0, ↓w_vf1, ↓w_vf2, ↓w_vf3, ↓w_vf4, ↓w_vf5, ↓w_vf6, ↓w_vf7, ↓w_vf8, ↓w_vf9, ↓w_vf10, ↓w_vf11, ↓w_vf12, ↓w_vf13, ↓w_vf14, ↓w_vf15, ↓w_vf16, ↓w_vf17, ↓w_vf18, ↓w_vf19, ↓w_vf20, ↓w_vf21, ↓w_vf22, ↓w_vf23, ↓w_vo0, ↓w_vo1, ↓w_vo2, ↓w_vo3, ↓w_vo4, ↓w_vo5, ↓w_vo6, ↓w_vo7, ↓w_vo8, ↓w_vo9, ↓w_vo10, ↓w_vo11, ↓w_vo12, ↓w_vo13, ↓w_vo14, ↓w_vo15, ↓w_vo16, ↓w_vo17, ↓w_vo18, ↓w_vo19, ↓w_vo20, ↓w_vo21, ↓w_vo22, ↓w_vo23, ↓w_mf0, ↓w_mf1, ↓w_mf2, ↓w_mf3, ↓w_mf4, ↓w_mf5, ↓w_mf6, ↓w_mf7, ↓w_mf8, ↓w_mf9, ↓w_mf10, ↓w_mf11, ↓w_mf12, ↓w_mf13, ↓w_mf14, ↓w_mf15, ↓w_mf16, ↓w_mf17, ↓w_mf18, ↓w_mf19, ↓w_mf20, ↓w_mf21, ↓w_mf22, ↓w_mf23, ↓w_mo0, ↓w_mo1, ↓w_mo2, ↓w_mo3, ↓w_mo4, ↓w_mo5, ↓w_mo6, ↓w_mo7, ↓w_mo8, ↓w_mo9, ↓w_mo10, ↓w_mo11, ↓w_mo12, ↓w_mo13, ↓w_mo14, ↓w_mo15, ↓w_mo16, ↓w_mo17, ↓w_mo18, ↓w_mo19, ↓w_mo20, ↓w_mo21, ↓w_mo22, ↓w_mo23, ↓w_op, ↓w_neg, ↓w_cmp, ↓w_ch2, ↓w_isN, ↓w_notN, ↓w_isB, ↓w_notB, ↓w_and, ↓w_or, ↓w_not, ↓w_ite, ↓w_nil, ↓w_cons, ↓w_star, ↓w_tup, ↓w_lst, ↓w_idx, ↓w_slc, ↓w_revL, ↓w_b1, ↓w_b2max2, ↓w_b2min2, ↓w_b2gcd, ↓w_b2indexL, ↓w_b2indexT, ↓w_dic, ↓w_dget, ↓w_dgetd, ↓w_dIn, ↓w_slcT, ↓w_lrngT, ↓w_lrngF, ↓w_pop0, ↓w_pop1, ↓w_call, ↓w_comp, ↓s_skip, ↓s_seq, ↓s_set, ↓s_unp, ↓s_par, ↓p_nil, ↓p_cons, ↓h_fz, ↓h_fr, ↓h_bw, ↓pe_nil, ↓pe_cons, ↓sl_fz, ↓sl_fr, ↓put0, ↓put1, ↓put2, ↓put3, ↓put4, ↓put5, ↓put6, ↓put7, ↓put8, ↓put9, ↓put10, ↓put11, ↓put12, ↓put13, ↓put14, ↓put15, ↓put16, ↓put17, ↓put18, ↓put19, ↓put20, ↓put21, ↓put22, ↓put23, ↓s_app, ↓s_ext, ↓s_popS, ↓s_sto, ↓s_sto2, ↓s_ifs, ↓s_for, ↓s_whl, ↓s_ret, ↓s_brk, ↓s_nev, ↓r_fz, ↓r_fr, ↓r_bo0, ↓r_bo1, ↓r_bo2, ↓r_bo3, ↓r_bo4, ↓r_bo5, ↓r_bo6, ↓r_bo7, ↓r_bo8, ↓r_bo9, ↓r_bo10, ↓r_bo11, ↓r_bo12, ↓r_bo13, ↓r_bo14, ↓r_bo15, ↓r_bo16, ↓r_bo17, ↓r_bo18, ↓r_bo19, ↓r_bo20, ↓r_bo21, ↓r_bo22, ↓r_bo23, ↓r_bf0, ↓r_bf1, ↓r_bf2, ↓r_bf3, ↓r_bf4, ↓r_bf5, ↓r_bf6, ↓r_bf7, ↓r_bf8, ↓r_bf9, ↓r_bf10, ↓r_bf11, ↓r_bf12, ↓r_bf13, ↓r_bf14, ↓r_bf15, ↓r_bf16, ↓r_bf17, ↓r_bf18, ↓r_bf19, ↓r_bf20, ↓r_bf21, ↓r_bf22, ↓r_bf23, ↓g_fz, ↓g_fr, ↓g_bo0, ↓g_bo1, ↓g_bo2, ↓g_bo3, ↓g_bo4, ↓g_bo5, ↓g_bo6, ↓g_bo7, ↓g_bo8, ↓g_bo9, ↓g_bo10, ↓g_bo11, ↓g_bo12, ↓g_bo13, ↓g_bo14, ↓g_bo15, ↓g_bo16, ↓g_bo17, ↓g_bo18, ↓g_bo19, ↓g_bo20, ↓g_bo21, ↓g_bo22, ↓g_bo23, ↓g_bf0, ↓g_bf1, ↓g_bf2, ↓g_bf3, ↓g_bf4, ↓g_bf5, ↓g_bf6, ↓g_bf7, ↓g_bf8, ↓g_bf9, ↓g_bf10, ↓g_bf11, ↓g_bf12, ↓g_bf13, ↓g_bf14, ↓g_bf15, ↓g_bf16, ↓g_bf17, ↓g_bf18, ↓g_bf19, ↓g_bf20, ↓g_bf21, ↓g_bf22, ↓g_bf23, ↓o_fz, ↓o_fr, ↓o_bo0, ↓o_bo1, ↓o_bo2, ↓o_bo3, ↓o_bo4, ↓o_bo5, ↓o_bo6, ↓o_bo7, ↓o_bo8, ↓o_bo9, ↓o_bo10, ↓o_bo11, ↓o_bo12, ↓o_bo13, ↓o_bo14, ↓o_bo15, ↓o_bo16, ↓o_bo17, ↓o_bo18, ↓o_bo19, ↓o_bo20, ↓o_bo21, ↓o_bo22, ↓o_bo23, ↓o_bf0, ↓o_bf1, ↓o_bf2, ↓o_bf3, ↓o_bf4, ↓o_bf5, ↓o_bf6, ↓o_bf7, ↓o_bf8, ↓o_bf9, ↓o_bf10, ↓o_bf11, ↓o_bf12, ↓o_bf13, ↓o_bf14, ↓o_bf15, ↓o_bf16, ↓o_bf17, ↓o_bf18, ↓o_bf19, ↓o_bf20, ↓o_bf21, ↓o_bf22, ↓o_bf23, ↓st_f0, ↓st_f1, ↓st_f2, ↓st_f3, ↓st_f4, ↓st_f5, ↓st_f6, ↓st_f7, ↓st_f8, ↓st_f9, ↓st_f10, ↓st_f11, ↓st_f12, ↓st_f13, ↓st_f14, ↓st_f15, ↓st_f16, ↓st_f17, ↓st_f18, ↓st_f19, ↓st_f20, ↓st_f21, ↓st_f22, ↓st_f23, ↓st_o0, ↓st_o1, ↓st_o2, ↓st_o3, ↓st_o4, ↓st_o5, ↓st_o6, ↓st_o7, ↓st_o8, ↓st_o9, ↓st_o10, ↓st_o11, ↓st_o12, ↓st_o13, ↓st_o14, ↓st_o15, ↓st_o16, ↓st_o17, ↓st_o18, ↓st_o19, ↓st_o20, ↓st_o21, ↓st_o22, ↓st_o23, ↓sb0, ↓sb1, ↓sb2, ↓sb3, ↓sb4, ↓sb5, ↓sb6, ↓sb7, ↓sb8, ↓sb9, ↓sb10, ↓sb11, ↓sb12, ↓sb13, ↓sb14, ↓sb15, ↓sb16, ↓sb17, ↓sb18, ↓sb19, ↓sb20, ↓sb21, ↓sb22, ↓sb23, ↓bd0, ↓bd1, ↓bd2, ↓bd3, ↓bd4, ↓bd5, ↓bd6, ↓bd7, ↓bd8, ↓bd9, ↓bd10, ↓bd11, ↓bd12, ↓bd13, ↓bd14, ↓bd15, ↓bd16, ↓bd17, ↓bd18, ↓bd19, ↓bd20, ↓bd21, ↓bd22, ↓bd23, ↓bd_cons, ↓bd_nil, ↓bd_t, ↓ow0, ↓ow1, ↓ow2, ↓ow3, ↓ow4, ↓ow5, ↓ow6, ↓ow7, ↓ow8, ↓ow9, ↓ow10, ↓ow11, ↓ow12, ↓ow13, ↓ow14, ↓ow15, ↓ow16, ↓ow17, ↓ow18, ↓ow19, ↓ow20, ↓ow21, ↓ow22, ↓ow23, ↓ap0, ↓ap1, ↓ap2, ↓ap3, ↓ap4, ↓ap5, ↓ap6, ↓ap7, ↓ap8, ↓ap9, ↓ap10, ↓ap11, ↓ap12, ↓ap13, ↓ap14, ↓ap15, ↓ap16, ↓ap17, ↓ap18, ↓ap19, ↓ap20, ↓ap21, ↓ap22, ↓ap23, ↓ex0, ↓ex1, ↓ex2, ↓ex3, ↓ex4, ↓ex5, ↓ex6, ↓ex7, ↓ex8, ↓ex9, ↓ex10, ↓ex11, ↓ex12, ↓ex13, ↓ex14, ↓ex15, ↓ex16, ↓ex17, ↓ex18, ↓ex19, ↓ex20, ↓ex21, ↓ex22, ↓ex23, ↓exT0, ↓exT1, ↓exT2, ↓exT3, ↓exT4, ↓exT5, ↓exT6, ↓exT7, ↓exT8, ↓exT9, ↓exT10, ↓exT11, ↓exT12, ↓exT13, ↓exT14, ↓exT15, ↓exT16, ↓exT17, ↓exT18, ↓exT19, ↓exT20, ↓exT21, ↓exT22, ↓exT23, ↓so0, ↓so1, ↓so2, ↓so3, ↓so4, ↓so5, ↓so6, ↓so7, ↓so8, ↓so9, ↓so10, ↓so11, ↓so12, ↓so13, ↓so14, ↓so15, ↓so16, ↓so17, ↓so18, ↓so19, ↓so20, ↓so21, ↓so22, ↓so23, ↓pp0, ↓pp1, ↓pp2, ↓pp3, ↓pp4, ↓pp5, ↓pp6, ↓pp7, ↓pp8, ↓pp9, ↓pp10, ↓pp11, ↓pp12, ↓pp13, ↓pp14, ↓pp15, ↓pp16, ↓pp17, ↓pp18, ↓pp19, ↓pp20, ↓pp21, ↓pp22, ↓pp23, ↓pq0, ↓pq1, ↓pq2, ↓pq3, ↓pq4, ↓pq5, ↓pq6, ↓pq7, ↓pq8, ↓pq9, ↓pq10, ↓pq11, ↓pq12, ↓pq13, ↓pq14, ↓pq15, ↓pq16, ↓pq17, ↓pq18, ↓pq19, ↓pq20, ↓pq21, ↓pq22, ↓pq23, ↓ps0, ↓ps1, ↓ps2, ↓ps3, ↓ps4, ↓ps5, ↓ps6, ↓ps7, ↓ps8, ↓ps9, ↓ps10, ↓ps11, ↓ps12, ↓ps13, ↓ps14, ↓ps15, ↓ps16, ↓ps17, ↓ps18, ↓ps19, ↓ps20, ↓ps21, ↓ps22, ↓ps23, ↓sr0, ↓sr1, ↓sr2, ↓sr3, ↓sr4, ↓sr5, ↓sr6, ↓sr7, ↓sr8, ↓sr9, ↓sr10, ↓sr11, ↓sr12, ↓sr13, ↓sr14, ↓sr15, ↓sr16, ↓sr17, ↓sr18, ↓sr19, ↓sr20, ↓sr21, ↓sr22, ↓sr23, ↓sr_no, ↓rt_f, ↓rt_t, ↓t_b, ↓b_addI, ↓b_subI, ↓b_mulI, ↓b_fdivI, ↓b_modI, ↓b_addL, ↓b_addT, ↓b_addS, ↓b_mulL, ↓b_mulT, ↓c_eqI, ↓c_neI, ↓c_ltI, ↓c_leI, ↓c_gtI, ↓c_geI, ↓c_eqS, ↓c_neS, ↓c_eq, ↓c_ne, ↓u_lenl, ↓u_lent, ↓u_tupLl, ↓u_tupTt, ↓u_lstQl, ↓u_lstQt, ↓u_intIi, ↓u_intBb, ↓u_absi, ↓u_repr, ↓u_isT, ↓u_isI, ↓u_isB, ↓u_isS, ↓u_all, ↓u_sum, ↓u_maxL, ↓u_minL, ↓u_sumT, ↓u_maxT, ↓u_minT, ↓u_sortDl, ↓u_sortDt, ↓u_max2, ↓u_min2, ↓u_gcd, ↓ix_l, ↓ix_t, ↓id_l0, ↓id_l1, ↓id_l2, ↓id_l3, ↓id_l4, ↓id_l5, ↓id_l6, ↓id_l7, ↓id_l8, ↓id_l9, ↓id_l10, ↓id_l11, ↓id_l12, ↓id_l13, ↓id_l14, ↓id_l15, ↓id_l16, ↓id_l17, ↓id_l18, ↓id_l19, ↓id_l20, ↓id_l21, ↓id_l22, ↓id_l23, ↓id_m0, ↓id_m1, ↓id_m2, ↓id_m3, ↓id_m4, ↓id_m5, ↓id_m6, ↓id_m7, ↓id_m8, ↓id_m9, ↓id_m10, ↓id_m11, ↓id_m12, ↓id_m13, ↓id_m14, ↓id_m15, ↓id_m16, ↓id_m17, ↓id_m18, ↓id_m19, ↓id_m20, ↓id_m21, ↓id_m22, ↓id_m23, ↓id_f, ↓id_r, ↓id_t, ↓idd0, ↓idd1, ↓idd2, ↓idd3, ↓idd4, ↓idd5, ↓idd6, ↓idd7, ↓idd8, ↓idd9, ↓idd10, ↓idd11, ↓idd12, ↓idd13, ↓idd14, ↓idd15, ↓idd16, ↓idd17, ↓idd18, ↓idd19, ↓idd20, ↓idd21, ↓idd22, ↓idd23, ↓idd_f, ↓idd_r, ↓dg, ↓dgd, ↓di, ↓pk, ↓i_l, ↓i_t, ↓sc_l, ↓sc_t, ↓pt_t, ↓pt_f, ↓it_l, ↓it_t, ↓ro1, ↓ro2, ↓ro3, ↓k_lst, ↓k_tup, ↓k_r1, ↓k_r2, ↓k_zl, ↓k_zt, ↓k_el, ↓k_et, ↓ex_fzT, ↓ex_fzI, ↓ex_fzB, ↓ex_T, ↓ex_L, ↓ex_some, ↓reduceIte, List.length_cons, List.length_nil, Nat.reduceAdd, Nat.reduceSub, true_and, and_true, List.nil_append, List.cons_append, decide_eq_true_eq, Bool.false_eq_true, List.append_nil, Bool.not_true, Bool.not_false, Bool.not_eq_true', decide_eq_false_iff_not]))
theorem fr_inj {a b : Rat} (h : fr a = fr b) : a = b := by
  simp only [fr, PyData.tuple.injEq, List.cons.injEq, PyData.int.injEq, and_true] at h
  exact Rat.ext h.1 (by omega)
/-- the quotient of two ints in lowest terms -/
theorem low_fr {a b : Int} (hb : 0 < b) : PyData.tuple [.int (a / (Nat.gcd a.natAbs b.natAbs : Nat)), .int (b / (Nat.gcd a.natAbs b.natAbs : Nat))] = fr (mkRat a b.toNat) := by
  have hn : b.toNat ≠ 0 := by omega
  have e : b.natAbs = b.toNat := by omega
  have e2 : (b : Int) = (b.toNat : Int) := by omega
  rw [← Rat.normalize_eq_mkRat hn, Rat.normalize_eq hn, fr, e]
  simp only
  congr 3
  · rw [Int.natCast_ediv, ← e2]
theorem mkRat_num {a b : Int} (hb : 0 < b) : True := True.intro
/-- powers of two, not worked out -/
def pw (n : Nat) : Nat := 2 ^ n
theorem pw_le {a b : Nat} (h : a ≤ b) : pw a ≤ pw b := Nat.pow_le_pow_right (by decide) h
theorem pw_add {a b : Nat} : pw a * pw b = pw (a + b) := (Nat.pow_add 2 a b).symm
theorem pw_pos {a : Nat} : 0 < pw a := Nat.pow_pos (by decide)
theorem pw_dbl {a : Nat} : pw a + pw a = pw (a + 1) := by unfold pw; rw [Nat.pow_succ]; omega
theorem mul_pw {a b m n : Nat} (h1 : a < pw m) (h2 : b < pw n) : a * b < pw (m + n) := by
  rw [← pw_add]
  exact Nat.mul_lt_mul'' h1 h2
/-- small enough for the machine -/
def Sm (q : Rat) : Prop := q.num.natAbs < pw 4000 ∧ q.den < pw 4000
theorem log2_pw {n k : Nat} (h : n < pw k) (hk : 0 < k) : n.log2 < k := by
  by_cases h0 : n = 0
  · subst h0; simp; omega
  · exact (Nat.log2_lt h0).mpr h
theorem mulOk_pw {i j : Int} (h1 : i.natAbs < pw 8001) (h2 : j.natAbs < pw 8001) : MulOk i j := by
  have a := log2_pw h1 (by decide)
  have b := log2_pw h2 (by decide)
  exact .inr (.inr (by omega))
theorem divOk_pw {j : Int} (h0 : 0 < j) (h : j.natAbs < pw 8001) : DivOk j := h0
theorem gcd_le {a : Nat} {b : Int} (hb : 0 < b) : Nat.gcd a b.natAbs ≤ b.natAbs := Nat.gcd_le_right _ (by omega)
theorem gcd_pos {a : Nat} {b : Int} (hb : 0 < b) : 0 < Nat.gcd a b.natAbs := Nat.gcd_pos_of_pos_right _ (by omega)
/-- what lowest does -/
def Low (F : Fns) (i : Nat) : Prop := ∀ (a b : Int) (k : Bool → D → Prop), 0 < b → b.natAbs < pw 8001 → k false (fr (mkRat a b.toNat)) → F i [.int a, .int b] k
section
variable {F : Fns} {x y : Rat} {k : Bool → D → Prop}
def tLowest : Stm :=
  .seq (.set 2 (.b2 .gcd (.v 0) (.v 1))) <|
  .seq (.ret (.tup (.cons (.op .fdivI (.v 0) (.v 2)) (.cons (.op .fdivI (.v 1) (.v 2)) (.nil))))) <|
  .skip
theorem low_run {a b : Int} (hb : 0 < b) (hs : b.natAbs < pw 8001) (h : k false (fr (mkRat a b.toNat))) : run F ⟨2, false, 3, tLowest⟩ [.int a, .int b] k := by
  unfold tLowest
  trivial
  have g1 := gcd_pos (a := a.natAbs) hb
  have g2 := gcd_le (a := a.natAbs) hb
  have d : DivOk ((a.natAbs.gcd b.natAbs : Nat) : Int) := divOk_pw (by omega) (by omega)
  refine ⟨d, d, by unfold Fits; omega, ?_⟩
  rw [low_fr hb]
  exact h
theorem sm_num (h : Sm x) : x.num.natAbs < pw 8001 := Nat.lt_of_lt_of_le h.1 (pw_le (by decide))
theorem sm_den (h : Sm x) : ((x.den : Nat) : Int).natAbs < pw 8001 := Nat.lt_of_lt_of_le h.2 (pw_le (by decide))
theorem sm_dd (hx : Sm x) (hy : Sm y) : ((x.den : Int) * (y.den : Int)).natAbs < pw 8001 := by
  rw [Int.natAbs_mul]
  exact Nat.lt_of_lt_of_le (mul_pw hx.2 hy.2) (pw_le (by decide))
theorem den_pos2 : (0 : Int) < (x.den : Int) * (y.den : Int) := Int.mul_pos (by have := x.den_pos; omega) (by have := y.den_pos; omega)
theorem toNat_dd : ((x.den : Int) * (y.den : Int)).toNat = x.den * y.den := by
  rw [← Int.natCast_mul, Int.toNat_natCast]
theorem add_mk : mkRat (x.num * (y.den : Int) + y.num * (x.den : Int)) ((x.den : Int) * (y.den : Int)).toNat = x + y := by
  rw [toNat_dd, Rat.add_def, Rat.normalize_eq_mkRat]
theorem sub_mk : mkRat (x.num * (y.den : Int) - y.num * (x.den : Int)) ((x.den : Int) * (y.den : Int)).toNat = x - y := by
  rw [toNat_dd, Rat.sub_def, Rat.normalize_eq_mkRat]
theorem mul_mk : mkRat (x.num * y.num) ((x.den : Int) * (y.den : Int)).toNat = x * y := by
  rw [toNat_dd, Rat.mul_def, Rat.normalize_eq_mkRat]
def FSum (F : Fns) (i : Nat) : Prop := ∀ (x y : Rat) (k : Bool → D → Prop), Sm x → Sm y → k false (fr (x + y)) → F i [fr x, fr y] k
def FTimes (F : Fns) (i : Nat) : Prop := ∀ (x y : Rat) (k : Bool → D → Prop), Sm x → Sm y → k false (fr (x * y)) → F i [fr x, fr y] k
def FLess (F : Fns) (i : Nat) : Prop := ∀ (x y : Rat) (k : Bool → D → Prop), Sm x → Sm y → k false (fr (x - y)) → F i [fr x, fr y] k
def tSum (l : Nat) : Stm :=
  .seq (.ret (.call l none (.cons (.op .addI (.op .mulI (.idx (.v 0) (.k (.int 0))) (.idx (.v 1) (.k (.int 1)))) (.op .mulI (.idx (.v 1) (.k (.int 0))) (.idx (.v 0) (.k (.int 1))))) (.cons (.op .mulI (.idx (.v 0) (.k (.int 1))) (.idx (.v 1) (.k (.int 1)))) (.nil))))) <|
  .skip
def tTimes (l : Nat) : Stm :=
  .seq (.ret (.call l none (.cons (.op .mulI (.idx (.v 0) (.k (.int 0))) (.idx (.v 1) (.k (.int 0)))) (.cons (.op .mulI (.idx (.v 0) (.k (.int 1))) (.idx (.v 1) (.k (.int 1)))) (.nil))))) <|
  .skip
def tLess (l : Nat) : Stm :=
  .seq (.ret (.call l none (.cons (.op .subI (.op .mulI (.idx (.v 0) (.k (.int 0))) (.idx (.v 1) (.k (.int 1)))) (.op .mulI (.idx (.v 1) (.k (.int 0))) (.idx (.v 0) (.k (.int 1))))) (.cons (.op .mulI (.idx (.v 0) (.k (.int 1))) (.idx (.v 1) (.k (.int 1)))) (.nil))))) <|
  .skip
theorem sum_run {l : Nat} (L : Low F l) (hx : Sm x) (hy : Sm y) (h : k false (fr (x + y))) : run F ⟨2, false, 2, tSum l⟩ [fr x, fr y] k := by
  unfold tSum
  trivial
  refine ⟨mulOk_pw (sm_num hx) (sm_den hy), mulOk_pw (sm_num hy) (sm_den hx), mulOk_pw (sm_den hx) (sm_den hy), ?_⟩
  refine L _ _ _ den_pos2 (sm_dd hx hy) ?_
  rw [add_mk]
  exact h
theorem times_run {l : Nat} (L : Low F l) (hx : Sm x) (hy : Sm y) (h : k false (fr (x * y))) : run F ⟨2, false, 2, tTimes l⟩ [fr x, fr y] k := by
  unfold tTimes
  trivial
  refine ⟨mulOk_pw (sm_num hx) (sm_num hy), mulOk_pw (sm_den hx) (sm_den hy), ?_⟩
  refine L _ _ _ den_pos2 (sm_dd hx hy) ?_
  rw [mul_mk]
  exact h
theorem less_run {l : Nat} (L : Low F l) (hx : Sm x) (hy : Sm y) (h : k false (fr (x - y))) : run F ⟨2, false, 2, tLess l⟩ [fr x, fr y] k := by
  unfold tLess
  trivial
  refine ⟨mulOk_pw (sm_num hx) (sm_den hy), mulOk_pw (sm_num hy) (sm_den hx), mulOk_pw (sm_den hx) (sm_den hy), ?_⟩
  refine L _ _ _ den_pos2 (sm_dd hx hy) ?_
  rw [sub_mk]
  exact h
end
end Ev
/-! EvFra: the laws' own fractions, draws; loops over rows. -/
namespace Ev
open PySem L2
local macro_rules | `(tactic| trivial) => `(tactic| ((try simp only [run, frame, List.map, List.replicate, Nat.reduceAdd, Nat.reduceSub, List.length_cons, List.length_nil, Bool.false_eq_true, if_false, if_true, List.nil_append, List.cons_append, true_and]); simp only [↓it_tF, ↓bd_fr, ↓idx_fr0, ↓idx_fr1, ↓i_tF, ↓i_lF, ↓u_ltF, ↓u_llF, ↓at2_0, ↓at2_1, fr0, fr1, ↓w_k, ↓w_vf0, ↓w_vf1, ↓w_vf2, ↓w_vf3, ↓w_vf4, ↓w_vf5, ↓w_vf6, ↓w_vf7, ↓w_vf8, ↓w_vf9, ↓w_vf10, ↓w_vf11, ↓w_vf12, ↓w_vf13, ↓w_vf14, ↓w_vf15, ↓w_vf16, ↓w_vf17, ↓w_vf18, ↓w_vf19, ↓w_vf20, ↓w_vf21, ↓w_vf22, ↓w_vf23, ↓w_vo0, ↓w_vo1, ↓w_vo2, ↓w_vo3, ↓w_vo4, ↓w_vo5, ↓w_vo6, ↓w_vo7, ↓w_vo8, ↓w_vo9, ↓w_vo10, ↓w_vo11, ↓w_vo12, ↓w_vo13, ↓w_vo14, ↓w_vo15, ↓w_vo16, ↓w_vo17, ↓w_vo18, ↓w_vo19, ↓w_vo20, ↓w_vo21, ↓w_vo22, ↓w_vo23, ↓w_mf0, ↓w_mf1, ↓w_mf2, ↓w_mf3, ↓w_mf4, ↓w_mf5, ↓w_mf6, ↓w_mf7, ↓w_mf8, ↓w_mf9, ↓w_mf10, ↓w_mf11, ↓w_mf12, ↓w_mf13, ↓w_mf14, ↓w_mf15, ↓w_mf16, ↓w_mf17, ↓w_mf18, ↓w_mf19, ↓w_mf20, ↓w_mf21, ↓w_mf22, ↓w_mf23, ↓w_mo0, ↓w_mo1, ↓w_mo2, ↓w_mo3, ↓w_mo4, ↓w_mo5, ↓w_mo6, ↓w_mo7, ↓w_mo8, ↓w_mo9, ↓w_mo10, ↓w_mo11, ↓w_mo12, ↓w_mo13, ↓w_mo14, ↓w_mo15, ↓w_mo16, ↓w_mo17, ↓w_mo18, ↓w_mo19, ↓w_mo20, ↓w_mo21, ↓w_mo22, ↓w_mo23, ↓w_op, ↓w_neg, ↓w_cmp, ↓w_ch2, ↓w_isN, ↓w_notN, ↓w_isB, ↓w_notB, ↓w_and, ↓w_or, ↓w_not, ↓w_ite, ↓w_nil, ↓w_cons, ↓w_star, ↓w_tup, ↓w_lst, ↓w_idx, ↓w_slc, ↓w_revL, ↓w_b1, ↓w_b2max2, ↓w_b2min2, ↓w_b2gcd, ↓w_b2indexL, ↓w_b2indexT, ↓w_dic, ↓w_dget, ↓w_dgetd, ↓w_dIn, ↓w_slcT, ↓w_lrngT, ↓w_lrngF, ↓w_pop0, ↓w_pop1, ↓w_call, ↓w_comp, ↓s_skip, ↓s_seq, ↓s_set, ↓s_unp, ↓s_par, ↓p_nil, ↓p_cons, ↓h_fz, ↓h_fr, ↓h_bw, ↓pe_nil, ↓pe_cons, ↓sl_fz, ↓sl_fr, ↓put0, ↓put1, ↓put2, ↓put3, ↓put4, ↓put5, ↓put6, ↓put7, ↓put8, ↓put9, ↓put10, ↓put11, ↓put12, ↓put13, ↓put14, ↓put15, ↓put16, ↓put17, ↓put18, ↓put19, ↓put20, ↓put21, ↓put22, ↓put23, ↓s_app, ↓s_ext, ↓s_popS, ↓s_sto, ↓s_sto2, ↓s_ifs, ↓s_for, ↓s_whl, ↓s_ret, ↓s_brk, ↓s_nev, ↓r_fz, ↓r_fr, ↓r_bo0, ↓r_bo1, ↓r_bo2, ↓r_bo3, ↓r_bo4, ↓r_bo5, ↓r_bo6, ↓r_bo7, ↓r_bo8, ↓r_bo9, ↓r_bo10, ↓r_bo11, ↓r_bo12, ↓r_bo13, ↓r_bo14, ↓r_bo15, ↓r_bo16, ↓r_bo17, ↓r_bo18, ↓r_bo19, ↓r_bo20, ↓r_bo21, ↓r_bo22, ↓r_bo23, ↓r_bf0, ↓r_bf1, ↓r_bf2, ↓r_bf3, ↓r_bf4, ↓r_bf5, ↓r_bf6, ↓r_bf7, ↓r_bf8, ↓r_bf9, ↓r_bf10, ↓r_bf11, ↓r_bf12, ↓r_bf13, ↓r_bf14, ↓r_bf15, ↓r_bf16, ↓r_bf17, ↓r_bf18, ↓r_bf19, ↓r_bf20, ↓r_bf21, ↓r_bf22, ↓r_bf23, ↓g_fz, ↓g_fr, ↓g_bo0, ↓g_bo1, ↓g_bo2, ↓g_bo3, ↓g_bo4, ↓g_bo5, ↓g_bo6, ↓g_bo7, ↓g_bo8, ↓g_bo9, ↓g_bo10, ↓g_bo11, ↓g_bo12, ↓g_bo13, ↓g_bo14, ↓g_bo15, ↓g_bo16, ↓g_bo17, ↓g_bo18, ↓g_bo19, ↓g_bo20, ↓g_bo21, ↓g_bo22, ↓g_bo23, ↓g_bf0, ↓g_bf1, ↓g_bf2, ↓g_bf3, ↓g_bf4, ↓g_bf5, ↓g_bf6, ↓g_bf7, ↓g_bf8, ↓g_bf9, ↓g_bf10, ↓g_bf11, ↓g_bf12, ↓g_bf13, ↓g_bf14, ↓g_bf15, ↓g_bf16, ↓g_bf17, ↓g_bf18, ↓g_bf19, ↓g_bf20, ↓g_bf21, ↓g_bf22, ↓g_bf23, ↓o_fz, ↓o_fr, ↓o_bo0, ↓o_bo1, ↓o_bo2, ↓o_bo3, ↓o_bo4, ↓o_bo5, ↓o_bo6, ↓o_bo7, ↓o_bo8, ↓o_bo9, ↓o_bo10, ↓o_bo11, ↓o_bo12, ↓o_bo13, ↓o_bo14, ↓o_bo15, ↓o_bo16, ↓o_bo17, ↓o_bo18, ↓o_bo19, ↓o_bo20, ↓o_bo21, ↓o_bo22, ↓o_bo23, ↓o_bf0, ↓o_bf1, ↓o_bf2, ↓o_bf3, ↓o_bf4, ↓o_bf5, ↓o_bf6, ↓o_bf7, ↓o_bf8, ↓o_bf9, ↓o_bf10, ↓o_bf11, ↓o_bf12, ↓o_bf13, ↓o_bf14, ↓o_bf15, ↓o_bf16, ↓o_bf17, ↓o_bf18, ↓o_bf19, ↓o_bf20, ↓o_bf21, ↓o_bf22, ↓o_bf23, ↓st_f0, ↓st_f1, ↓st_f2, ↓st_f3, ↓st_f4, ↓st_f5, ↓st_f6, ↓st_f7, ↓st_f8, ↓st_f9, ↓st_f10, ↓st_f11, ↓st_f12, ↓st_f13, ↓st_f14, ↓st_f15, ↓st_f16, ↓st_f17, ↓st_f18, ↓st_f19, ↓st_f20, ↓st_f21, ↓st_f22, ↓st_f23, ↓st_o0, ↓st_o1, ↓st_o2, ↓st_o3, ↓st_o4, ↓st_o5, ↓st_o6, ↓st_o7, ↓st_o8, ↓st_o9, ↓st_o10, ↓st_o11, ↓st_o12, ↓st_o13, ↓st_o14, ↓st_o15, ↓st_o16, ↓st_o17, ↓st_o18, ↓st_o19, ↓st_o20, ↓st_o21, ↓st_o22, ↓st_o23, ↓sb0, ↓sb1, ↓sb2, ↓sb3, ↓sb4, ↓sb5, ↓sb6, ↓sb7, ↓sb8, ↓sb9, ↓sb10, ↓sb11, ↓sb12, ↓sb13, ↓sb14, ↓sb15, ↓sb16, ↓sb17, ↓sb18, ↓sb19, ↓sb20, ↓sb21, ↓sb22, ↓sb23, ↓bd0, ↓bd1, ↓bd2, ↓bd3, ↓bd4, ↓bd5, ↓bd6, ↓bd7, ↓bd8, ↓bd9, ↓bd10, ↓bd11, ↓bd12, ↓bd13, ↓bd14, ↓bd15, ↓bd16, ↓bd17, ↓bd18, ↓bd19, ↓bd20, ↓bd21, ↓bd22, ↓bd23, ↓bd_cons, ↓bd_nil, ↓bd_t, ↓ow0, ↓ow1, ↓ow2, ↓ow3, ↓ow4, ↓ow5, ↓ow6, ↓ow7, ↓ow8, ↓ow9, ↓ow10, ↓ow11, ↓ow12, ↓ow13, ↓ow14, ↓ow15, ↓ow16, ↓ow17, ↓ow18, ↓ow19, ↓ow20, ↓ow21, ↓ow22, ↓ow23, ↓ap0, ↓ap1, ↓ap2, ↓ap3, ↓ap4, ↓ap5, ↓ap6, ↓ap7, ↓ap8, ↓ap9, ↓ap10, ↓ap11, ↓ap12, ↓ap13, ↓ap14, ↓ap15, ↓ap16, ↓ap17, ↓ap18, ↓ap19, ↓ap20, ↓ap21, ↓ap22, ↓ap23, ↓ex0, ↓ex1, ↓ex2, ↓ex3, ↓ex4, ↓ex5, ↓ex6, ↓ex7, ↓ex8, ↓ex9, ↓ex10, ↓ex11, ↓ex12, ↓ex13, ↓ex14, ↓ex15, ↓ex16, ↓ex17, ↓ex18, ↓ex19, ↓ex20, ↓ex21, ↓ex22, ↓ex23, ↓exT0, ↓exT1, ↓exT2, ↓exT3, ↓exT4, ↓exT5, ↓exT6, ↓exT7, ↓exT8, ↓exT9, ↓exT10, ↓exT11, ↓exT12, ↓exT13, ↓exT14, ↓exT15, ↓exT16, ↓exT17, ↓exT18, ↓exT19, ↓exT20, ↓exT21, ↓exT22, ↓exT23, ↓so0, ↓so1, ↓so2, ↓so3, ↓so4, ↓so5, ↓so6, ↓so7, ↓so8, ↓so9, ↓so10, ↓so11, ↓so12, ↓so13, ↓so14, ↓so15, ↓so16, ↓so17, ↓so18, ↓so19, ↓so20, ↓so21, ↓so22, ↓so23, ↓pp0, ↓pp1, ↓pp2, ↓pp3, ↓pp4, ↓pp5, ↓pp6, ↓pp7, ↓pp8, ↓pp9, ↓pp10, ↓pp11, ↓pp12, ↓pp13, ↓pp14, ↓pp15, ↓pp16, ↓pp17, ↓pp18, ↓pp19, ↓pp20, ↓pp21, ↓pp22, ↓pp23, ↓pq0, ↓pq1, ↓pq2, ↓pq3, ↓pq4, ↓pq5, ↓pq6, ↓pq7, ↓pq8, ↓pq9, ↓pq10, ↓pq11, ↓pq12, ↓pq13, ↓pq14, ↓pq15, ↓pq16, ↓pq17, ↓pq18, ↓pq19, ↓pq20, ↓pq21, ↓pq22, ↓pq23, ↓ps0, ↓ps1, ↓ps2, ↓ps3, ↓ps4, ↓ps5, ↓ps6, ↓ps7, ↓ps8, ↓ps9, ↓ps10, ↓ps11, ↓ps12, ↓ps13, ↓ps14, ↓ps15, ↓ps16, ↓ps17, ↓ps18, ↓ps19, ↓ps20, ↓ps21, ↓ps22, ↓ps23, ↓sr0, ↓sr1, ↓sr2, ↓sr3, ↓sr4, ↓sr5, ↓sr6, ↓sr7, ↓sr8, ↓sr9, ↓sr10, ↓sr11, ↓sr12, ↓sr13, ↓sr14, ↓sr15, ↓sr16, ↓sr17, ↓sr18, ↓sr19, ↓sr20, ↓sr21, ↓sr22, ↓sr23, ↓sr_no, ↓rt_f, ↓rt_t, ↓t_b, ↓b_addI, ↓b_subI, ↓b_mulI, ↓b_fdivI, ↓b_modI, ↓b_addL, ↓b_addT, ↓b_addS, ↓b_mulL, ↓b_mulT, ↓c_eqI, ↓c_neI, ↓c_ltI, ↓c_leI, ↓c_gtI, ↓c_geI, ↓c_eqS, ↓c_neS, ↓c_eq, ↓c_ne, ↓u_lenl, ↓u_lent, ↓u_tupLl, ↓u_tupTt, ↓u_lstQl, ↓u_lstQt, ↓u_intIi, ↓u_intBb, ↓u_absi, ↓u_repr, ↓u_isT, ↓u_isI, ↓u_isB, ↓u_isS, ↓u_all, ↓u_sum, ↓u_maxL, ↓u_minL, ↓u_sumT, ↓u_maxT, ↓u_minT, ↓u_sortDl, ↓u_sortDt, ↓u_max2, ↓u_min2, ↓u_gcd, ↓ix_l, ↓ix_t, ↓id_l0, ↓id_l1, ↓id_l2, ↓id_l3, ↓id_l4, ↓id_l5, ↓id_l6, ↓id_l7, ↓id_l8, ↓id_l9, ↓id_l10, ↓id_l11, ↓id_l12, ↓id_l13, ↓id_l14, ↓id_l15, ↓id_l16, ↓id_l17, ↓id_l18, ↓id_l19, ↓id_l20, ↓id_l21, ↓id_l22, ↓id_l23, ↓id_m0, ↓id_m1, ↓id_m2, ↓id_m3, ↓id_m4, ↓id_m5, ↓id_m6, ↓id_m7, ↓id_m8, ↓id_m9, ↓id_m10, ↓id_m11, ↓id_m12, ↓id_m13, ↓id_m14, ↓id_m15, ↓id_m16, ↓id_m17, ↓id_m18, ↓id_m19, ↓id_m20, ↓id_m21, ↓id_m22, ↓id_m23, ↓id_f, ↓id_r, ↓id_t, ↓idd0, ↓idd1, ↓idd2, ↓idd3, ↓idd4, ↓idd5, ↓idd6, ↓idd7, ↓idd8, ↓idd9, ↓idd10, ↓idd11, ↓idd12, ↓idd13, ↓idd14, ↓idd15, ↓idd16, ↓idd17, ↓idd18, ↓idd19, ↓idd20, ↓idd21, ↓idd22, ↓idd23, ↓idd_f, ↓idd_r, ↓dg, ↓dgd, ↓di, ↓pk, ↓i_l, ↓i_t, ↓sc_l, ↓sc_t, ↓pt_t, ↓pt_f, ↓it_l, ↓it_t, ↓ro1, ↓ro2, ↓ro3, ↓k_lst, ↓k_tup, ↓k_r1, ↓k_r2, ↓k_zl, ↓k_zt, ↓k_el, ↓k_et, ↓ex_fzT, ↓ex_fzI, ↓ex_fzB, ↓ex_T, ↓ex_L, ↓ex_some, ↓reduceIte, List.length_cons, List.length_nil, Nat.reduceAdd, Nat.reduceSub, true_and, and_true, List.nil_append, List.cons_append, decide_eq_true_eq, Bool.false_eq_true, List.append_nil, Bool.not_true, Bool.not_false, Bool.not_eq_true', decide_eq_false_iff_not]))
theorem row_get {i n : Nat} {f : Nat → Rat} {d : D} (h : (rowL n f)[i]? = some d) : i < n ∧ d = fr (f i) := by
  unfold rowL at h
  rw [List.getElem?_map] at h
  by_cases hi : i < n
  · rw [List.getElem?_range hi] at h
    exact ⟨hi, (Option.some.inj h).symm⟩
  · rw [List.getElem?_eq_none (by simpa using Nat.le_of_not_lt hi)] at h
    cases h
/-! ### the laws' own gcd and lowest terms -/
def LGcd (F : Fns) (i : Nat) : Prop := ∀ (a b : Int) (k : Bool → D → Prop), k false (.int (Nat.gcd a.natAbs b.natAbs : Nat)) → F i [.int a, .int b] k
def tGcd : Stm :=
  .seq (.par [0, 1] (.cons (.b1 .abs (.v 0)) (.cons (.b1 .abs (.v 1)) (.nil)))) <|
  .seq (.whl (.cmp .gtI (.v 1) (.k (.int 0))) (
    .seq (.par [0, 1] (.cons (.v 1) (.cons (.op .modI (.b1 .intI (.v 0)) (.v 1)) (.nil)))) <|
    .skip)) <|
  .seq (.ret (.v 0)) <|
  .skip
section
variable {F : Fns} {x y : Rat} {k : Bool → D → Prop}
theorem gcd_run {a b : Int} (h : k false (.int (Nat.gcd a.natAbs b.natAbs : Nat))) : run F ⟨2, false, 2, tGcd⟩ [.int a, .int b] k := by
  unfold tGcd
  trivial
  have ea : (if a < 0 then -a else a) = (a.natAbs : Int) := by split <;> omega
  have eb : (if b < 0 then -b else b) = (b.natAbs : Int) := by split <;> omega
  rw [ea, eb]
  refine whl_inv (fun m e => ∃ u v : Nat, e = [.fz (.int u), .fz (.int v)] ∧ m = v ∧ Nat.gcd u v = Nat.gcd a.natAbs b.natAbs) b.natAbs ⟨_, _, rfl, rfl, rfl⟩ ?_
  rintro m e n ⟨u, v, rfl, rfl, hg⟩ hn
  trivial
  by_cases hv : 0 < (m : Int)
  · rw [if_pos hv]
    refine ⟨hv, hn _ (u % m) (Nat.mod_lt _ (by omega)) ⟨m, u % m, rfl, rfl, ?_⟩⟩
    rw [← hg, Nat.gcd_comm u m, Nat.gcd_rec m u, Nat.gcd_comm]
  · rw [if_neg hv]
    have : m = 0 := by omega
    subst this
    rw [Nat.gcd_zero_right] at hg
    rw [hg]
    exact h
def tLow (g : Nat) : Stm :=
  .seq (.set 2 (.op .mulI (.call g none (.cons (.v 0) (.cons (.v 1) (.nil)))) (.ite (.cmp .gtI (.v 1) (.k (.int 0))) (.k (.int 1)) (.neg (.k (.int 1)))))) <|
  .seq (.ret (.tup (.cons (.op .fdivI (.v 0) (.v 2)) (.cons (.op .fdivI (.v 1) (.v 2)) (.nil))))) <|
  .skip
theorem llow_run {g : Nat} (G : LGcd F g) {a b : Int} (hb : 0 < b) (hs : b.natAbs < pw 8001) (h : k false (fr (mkRat a b.toNat))) : run F ⟨2, false, 3, tLow g⟩ [.int a, .int b] k := by
  unfold tLow
  trivial
  refine G _ _ _ ?_
  trivial
  rw [if_pos hb]
  have g1 := gcd_pos (a := a.natAbs) hb
  have g2 := gcd_le (a := a.natAbs) hb
  have e : ((a.natAbs.gcd b.natAbs : Nat) : Int) * 1 = (a.natAbs.gcd b.natAbs : Nat) := Int.mul_one _
  have d : DivOk ((a.natAbs.gcd b.natAbs : Nat) : Int) := divOk_pw (by omega) (by omega)
  rw [e]
  refine ⟨.inr (.inl (by decide)), d, d, by unfold Fits; omega, ?_⟩
  rw [low_fr hb]
  exact h
end
end Ev
/-! EvWay: sums of rows; lines of ways' numbers; rows of weights; rows with a level and a down ahead. -/
namespace Ev
open PySem L2
local macro_rules | `(tactic| trivial) => `(tactic| ((try simp only [run, frame, List.map, List.replicate, Nat.reduceAdd, Nat.reduceSub, List.length_cons, List.length_nil, Bool.false_eq_true, if_false, if_true, List.nil_append, List.cons_append, true_and]); simp only [↓it_tF, ↓bd_fr, ↓idx_fr0, ↓idx_fr1, ↓i_tF, ↓i_lF, ↓u_ltF, ↓u_llF, ↓at2_0, ↓at2_1, fr0, fr1, ↓w_k, ↓w_vf0, ↓w_vf1, ↓w_vf2, ↓w_vf3, ↓w_vf4, ↓w_vf5, ↓w_vf6, ↓w_vf7, ↓w_vf8, ↓w_vf9, ↓w_vf10, ↓w_vf11, ↓w_vf12, ↓w_vf13, ↓w_vf14, ↓w_vf15, ↓w_vf16, ↓w_vf17, ↓w_vf18, ↓w_vf19, ↓w_vf20, ↓w_vf21, ↓w_vf22, ↓w_vf23, ↓w_vo0, ↓w_vo1, ↓w_vo2, ↓w_vo3, ↓w_vo4, ↓w_vo5, ↓w_vo6, ↓w_vo7, ↓w_vo8, ↓w_vo9, ↓w_vo10, ↓w_vo11, ↓w_vo12, ↓w_vo13, ↓w_vo14, ↓w_vo15, ↓w_vo16, ↓w_vo17, ↓w_vo18, ↓w_vo19, ↓w_vo20, ↓w_vo21, ↓w_vo22, ↓w_vo23, ↓w_mf0, ↓w_mf1, ↓w_mf2, ↓w_mf3, ↓w_mf4, ↓w_mf5, ↓w_mf6, ↓w_mf7, ↓w_mf8, ↓w_mf9, ↓w_mf10, ↓w_mf11, ↓w_mf12, ↓w_mf13, ↓w_mf14, ↓w_mf15, ↓w_mf16, ↓w_mf17, ↓w_mf18, ↓w_mf19, ↓w_mf20, ↓w_mf21, ↓w_mf22, ↓w_mf23, ↓w_mo0, ↓w_mo1, ↓w_mo2, ↓w_mo3, ↓w_mo4, ↓w_mo5, ↓w_mo6, ↓w_mo7, ↓w_mo8, ↓w_mo9, ↓w_mo10, ↓w_mo11, ↓w_mo12, ↓w_mo13, ↓w_mo14, ↓w_mo15, ↓w_mo16, ↓w_mo17, ↓w_mo18, ↓w_mo19, ↓w_mo20, ↓w_mo21, ↓w_mo22, ↓w_mo23, ↓w_op, ↓w_neg, ↓w_cmp, ↓w_ch2, ↓w_isN, ↓w_notN, ↓w_isB, ↓w_notB, ↓w_and, ↓w_or, ↓w_not, ↓w_ite, ↓w_nil, ↓w_cons, ↓w_star, ↓w_tup, ↓w_lst, ↓w_idx, ↓w_slc, ↓w_revL, ↓w_b1, ↓w_b2max2, ↓w_b2min2, ↓w_b2gcd, ↓w_b2indexL, ↓w_b2indexT, ↓w_dic, ↓w_dget, ↓w_dgetd, ↓w_dIn, ↓w_slcT, ↓w_lrngT, ↓w_lrngF, ↓w_pop0, ↓w_pop1, ↓w_call, ↓w_comp, ↓s_skip, ↓s_seq, ↓s_set, ↓s_unp, ↓s_par, ↓p_nil, ↓p_cons, ↓h_fz, ↓h_fr, ↓h_bw, ↓pe_nil, ↓pe_cons, ↓sl_fz, ↓sl_fr, ↓put0, ↓put1, ↓put2, ↓put3, ↓put4, ↓put5, ↓put6, ↓put7, ↓put8, ↓put9, ↓put10, ↓put11, ↓put12, ↓put13, ↓put14, ↓put15, ↓put16, ↓put17, ↓put18, ↓put19, ↓put20, ↓put21, ↓put22, ↓put23, ↓s_app, ↓s_ext, ↓s_popS, ↓s_sto, ↓s_sto2, ↓s_ifs, ↓s_for, ↓s_whl, ↓s_ret, ↓s_brk, ↓s_nev, ↓r_fz, ↓r_fr, ↓r_bo0, ↓r_bo1, ↓r_bo2, ↓r_bo3, ↓r_bo4, ↓r_bo5, ↓r_bo6, ↓r_bo7, ↓r_bo8, ↓r_bo9, ↓r_bo10, ↓r_bo11, ↓r_bo12, ↓r_bo13, ↓r_bo14, ↓r_bo15, ↓r_bo16, ↓r_bo17, ↓r_bo18, ↓r_bo19, ↓r_bo20, ↓r_bo21, ↓r_bo22, ↓r_bo23, ↓r_bf0, ↓r_bf1, ↓r_bf2, ↓r_bf3, ↓r_bf4, ↓r_bf5, ↓r_bf6, ↓r_bf7, ↓r_bf8, ↓r_bf9, ↓r_bf10, ↓r_bf11, ↓r_bf12, ↓r_bf13, ↓r_bf14, ↓r_bf15, ↓r_bf16, ↓r_bf17, ↓r_bf18, ↓r_bf19, ↓r_bf20, ↓r_bf21, ↓r_bf22, ↓r_bf23, ↓g_fz, ↓g_fr, ↓g_bo0, ↓g_bo1, ↓g_bo2, ↓g_bo3, ↓g_bo4, ↓g_bo5, ↓g_bo6, ↓g_bo7, ↓g_bo8, ↓g_bo9, ↓g_bo10, ↓g_bo11, ↓g_bo12, ↓g_bo13, ↓g_bo14, ↓g_bo15, ↓g_bo16, ↓g_bo17, ↓g_bo18, ↓g_bo19, ↓g_bo20, ↓g_bo21, ↓g_bo22, ↓g_bo23, ↓g_bf0, ↓g_bf1, ↓g_bf2, ↓g_bf3, ↓g_bf4, ↓g_bf5, ↓g_bf6, ↓g_bf7, ↓g_bf8, ↓g_bf9, ↓g_bf10, ↓g_bf11, ↓g_bf12, ↓g_bf13, ↓g_bf14, ↓g_bf15, ↓g_bf16, ↓g_bf17, ↓g_bf18, ↓g_bf19, ↓g_bf20, ↓g_bf21, ↓g_bf22, ↓g_bf23, ↓o_fz, ↓o_fr, ↓o_bo0, ↓o_bo1, ↓o_bo2, ↓o_bo3, ↓o_bo4, ↓o_bo5, ↓o_bo6, ↓o_bo7, ↓o_bo8, ↓o_bo9, ↓o_bo10, ↓o_bo11, ↓o_bo12, ↓o_bo13, ↓o_bo14, ↓o_bo15, ↓o_bo16, ↓o_bo17, ↓o_bo18, ↓o_bo19, ↓o_bo20, ↓o_bo21, ↓o_bo22, ↓o_bo23, ↓o_bf0, ↓o_bf1, ↓o_bf2, ↓o_bf3, ↓o_bf4, ↓o_bf5, ↓o_bf6, ↓o_bf7, ↓o_bf8, ↓o_bf9, ↓o_bf10, ↓o_bf11, ↓o_bf12, ↓o_bf13, ↓o_bf14, ↓o_bf15, ↓o_bf16, ↓o_bf17, ↓o_bf18, ↓o_bf19, ↓o_bf20, ↓o_bf21, ↓o_bf22, ↓o_bf23, ↓st_f0, ↓st_f1, ↓st_f2, ↓st_f3, ↓st_f4, ↓st_f5, ↓st_f6, ↓st_f7, ↓st_f8, ↓st_f9, ↓st_f10, ↓st_f11, ↓st_f12, ↓st_f13, ↓st_f14, ↓st_f15, ↓st_f16, ↓st_f17, ↓st_f18, ↓st_f19, ↓st_f20, ↓st_f21, ↓st_f22, ↓st_f23, ↓st_o0, ↓st_o1, ↓st_o2, ↓st_o3, ↓st_o4, ↓st_o5, ↓st_o6, ↓st_o7, ↓st_o8, ↓st_o9, ↓st_o10, ↓st_o11, ↓st_o12, ↓st_o13, ↓st_o14, ↓st_o15, ↓st_o16, ↓st_o17, ↓st_o18, ↓st_o19, ↓st_o20, ↓st_o21, ↓st_o22, ↓st_o23, ↓sb0, ↓sb1, ↓sb2, ↓sb3, ↓sb4, ↓sb5, ↓sb6, ↓sb7, ↓sb8, ↓sb9, ↓sb10, ↓sb11, ↓sb12, ↓sb13, ↓sb14, ↓sb15, ↓sb16, ↓sb17, ↓sb18, ↓sb19, ↓sb20, ↓sb21, ↓sb22, ↓sb23, ↓bd0, ↓bd1, ↓bd2, ↓bd3, ↓bd4, ↓bd5, ↓bd6, ↓bd7, ↓bd8, ↓bd9, ↓bd10, ↓bd11, ↓bd12, ↓bd13, ↓bd14, ↓bd15, ↓bd16, ↓bd17, ↓bd18, ↓bd19, ↓bd20, ↓bd21, ↓bd22, ↓bd23, ↓bd_cons, ↓bd_nil, ↓bd_t, ↓ow0, ↓ow1, ↓ow2, ↓ow3, ↓ow4, ↓ow5, ↓ow6, ↓ow7, ↓ow8, ↓ow9, ↓ow10, ↓ow11, ↓ow12, ↓ow13, ↓ow14, ↓ow15, ↓ow16, ↓ow17, ↓ow18, ↓ow19, ↓ow20, ↓ow21, ↓ow22, ↓ow23, ↓ap0, ↓ap1, ↓ap2, ↓ap3, ↓ap4, ↓ap5, ↓ap6, ↓ap7, ↓ap8, ↓ap9, ↓ap10, ↓ap11, ↓ap12, ↓ap13, ↓ap14, ↓ap15, ↓ap16, ↓ap17, ↓ap18, ↓ap19, ↓ap20, ↓ap21, ↓ap22, ↓ap23, ↓ex0, ↓ex1, ↓ex2, ↓ex3, ↓ex4, ↓ex5, ↓ex6, ↓ex7, ↓ex8, ↓ex9, ↓ex10, ↓ex11, ↓ex12, ↓ex13, ↓ex14, ↓ex15, ↓ex16, ↓ex17, ↓ex18, ↓ex19, ↓ex20, ↓ex21, ↓ex22, ↓ex23, ↓exT0, ↓exT1, ↓exT2, ↓exT3, ↓exT4, ↓exT5, ↓exT6, ↓exT7, ↓exT8, ↓exT9, ↓exT10, ↓exT11, ↓exT12, ↓exT13, ↓exT14, ↓exT15, ↓exT16, ↓exT17, ↓exT18, ↓exT19, ↓exT20, ↓exT21, ↓exT22, ↓exT23, ↓so0, ↓so1, ↓so2, ↓so3, ↓so4, ↓so5, ↓so6, ↓so7, ↓so8, ↓so9, ↓so10, ↓so11, ↓so12, ↓so13, ↓so14, ↓so15, ↓so16, ↓so17, ↓so18, ↓so19, ↓so20, ↓so21, ↓so22, ↓so23, ↓pp0, ↓pp1, ↓pp2, ↓pp3, ↓pp4, ↓pp5, ↓pp6, ↓pp7, ↓pp8, ↓pp9, ↓pp10, ↓pp11, ↓pp12, ↓pp13, ↓pp14, ↓pp15, ↓pp16, ↓pp17, ↓pp18, ↓pp19, ↓pp20, ↓pp21, ↓pp22, ↓pp23, ↓pq0, ↓pq1, ↓pq2, ↓pq3, ↓pq4, ↓pq5, ↓pq6, ↓pq7, ↓pq8, ↓pq9, ↓pq10, ↓pq11, ↓pq12, ↓pq13, ↓pq14, ↓pq15, ↓pq16, ↓pq17, ↓pq18, ↓pq19, ↓pq20, ↓pq21, ↓pq22, ↓pq23, ↓ps0, ↓ps1, ↓ps2, ↓ps3, ↓ps4, ↓ps5, ↓ps6, ↓ps7, ↓ps8, ↓ps9, ↓ps10, ↓ps11, ↓ps12, ↓ps13, ↓ps14, ↓ps15, ↓ps16, ↓ps17, ↓ps18, ↓ps19, ↓ps20, ↓ps21, ↓ps22, ↓ps23, ↓sr0, ↓sr1, ↓sr2, ↓sr3, ↓sr4, ↓sr5, ↓sr6, ↓sr7, ↓sr8, ↓sr9, ↓sr10, ↓sr11, ↓sr12, ↓sr13, ↓sr14, ↓sr15, ↓sr16, ↓sr17, ↓sr18, ↓sr19, ↓sr20, ↓sr21, ↓sr22, ↓sr23, ↓sr_no, ↓rt_f, ↓rt_t, ↓t_b, ↓b_addI, ↓b_subI, ↓b_mulI, ↓b_fdivI, ↓b_modI, ↓b_addL, ↓b_addT, ↓b_addS, ↓b_mulL, ↓b_mulT, ↓c_eqI, ↓c_neI, ↓c_ltI, ↓c_leI, ↓c_gtI, ↓c_geI, ↓c_eqS, ↓c_neS, ↓c_eq, ↓c_ne, ↓u_lenl, ↓u_lent, ↓u_tupLl, ↓u_tupTt, ↓u_lstQl, ↓u_lstQt, ↓u_intIi, ↓u_intBb, ↓u_absi, ↓u_repr, ↓u_isT, ↓u_isI, ↓u_isB, ↓u_isS, ↓u_all, ↓u_sum, ↓u_maxL, ↓u_minL, ↓u_sumT, ↓u_maxT, ↓u_minT, ↓u_sortDl, ↓u_sortDt, ↓u_max2, ↓u_min2, ↓u_gcd, ↓ix_l, ↓ix_t, ↓id_l0, ↓id_l1, ↓id_l2, ↓id_l3, ↓id_l4, ↓id_l5, ↓id_l6, ↓id_l7, ↓id_l8, ↓id_l9, ↓id_l10, ↓id_l11, ↓id_l12, ↓id_l13, ↓id_l14, ↓id_l15, ↓id_l16, ↓id_l17, ↓id_l18, ↓id_l19, ↓id_l20, ↓id_l21, ↓id_l22, ↓id_l23, ↓id_m0, ↓id_m1, ↓id_m2, ↓id_m3, ↓id_m4, ↓id_m5, ↓id_m6, ↓id_m7, ↓id_m8, ↓id_m9, ↓id_m10, ↓id_m11, ↓id_m12, ↓id_m13, ↓id_m14, ↓id_m15, ↓id_m16, ↓id_m17, ↓id_m18, ↓id_m19, ↓id_m20, ↓id_m21, ↓id_m22, ↓id_m23, ↓id_f, ↓id_r, ↓id_t, ↓idd0, ↓idd1, ↓idd2, ↓idd3, ↓idd4, ↓idd5, ↓idd6, ↓idd7, ↓idd8, ↓idd9, ↓idd10, ↓idd11, ↓idd12, ↓idd13, ↓idd14, ↓idd15, ↓idd16, ↓idd17, ↓idd18, ↓idd19, ↓idd20, ↓idd21, ↓idd22, ↓idd23, ↓idd_f, ↓idd_r, ↓dg, ↓dgd, ↓di, ↓pk, ↓i_l, ↓i_t, ↓sc_l, ↓sc_t, ↓pt_t, ↓pt_f, ↓it_l, ↓it_t, ↓ro1, ↓ro2, ↓ro3, ↓k_lst, ↓k_tup, ↓k_r1, ↓k_r2, ↓k_zl, ↓k_zt, ↓k_el, ↓k_et, ↓ex_fzT, ↓ex_fzI, ↓ex_fzB, ↓ex_T, ↓ex_L, ↓ex_some, ↓reduceIte, List.length_cons, List.length_nil, Nat.reduceAdd, Nat.reduceSub, true_and, and_true, List.nil_append, List.cons_append, decide_eq_true_eq, Bool.false_eq_true, List.append_nil, Bool.not_true, Bool.not_false, Bool.not_eq_true', decide_eq_false_iff_not]))
/-- the sum of the first ones, from the left -/
def sumF (f : Nat → Rat) : Nat → Rat
  | 0 => 0
  | n + 1 => sumF f n + f n
def FAll (F : Fns) (i : Nat) : Prop := ∀ (n : Nat) (f : Nat → Rat) (k : Bool → D → Prop), (∀ j, j < n → Sm (f j)) → (∀ j, j < n → Sm (sumF f j)) → k false (fr (sumF f n)) → F i [lstF n f] k
def tAll (s : Nat) : Stm :=
  .seq (.set 1 (.tup (.cons (.k (.int 0)) (.cons (.k (.int 1)) (.nil))))) <|
  .seq (.forS .lst (.v 0) (.s 2) (
    .seq (.set 1 (.call s none (.cons (.v 1) (.cons (.v 2) (.nil))))) <|
    .skip)) <|
  .seq (.ret (.v 1)) <|
  .skip
section
variable {F : Fns} {k : Bool → D → Prop}
theorem all_run {s n : Nat} {f : Nat → Rat} (S : FSum F s) (h1 : ∀ j, j < n → Sm (f j)) (h2 : ∀ j, j < n → Sm (sumF f j)) (h : k false (fr (sumF f n))) : run F ⟨1, false, 3, tAll s⟩ [lstF n f] k := by
  unfold tAll lstF
  trivial
  refine ⟨fits2, ?_⟩
  refine loop_inv (fun i e => ∃ s, e = [.fz (.list (rowL n f)), .fz (fr (sumF f i)), s]) ⟨_, rfl⟩ ?_ ?_
  · rintro i d e nn hd ⟨s, rfl⟩ hn
    obtain ⟨hi, rfl⟩ := row_get hd
    trivial
    refine S _ _ _ (h2 i hi) (h1 i hi) ?_
    trivial
    exact hn _ ⟨_, rfl⟩
  · rintro e ⟨s, rfl⟩
    rw [rowL_len]
    trivial
    exact h
/-! ### lines of ways' numbers -/
/-- the next line -/
def nxt (n : Nat) (L W X : Nat → Rat) (k : Nat) : Rat := (L k * X k + (if 0 < k then X (k - 1) else 0)) + (if k + 1 < n then W k * X (k + 1) else 0)
structure NxOk (n : Nat) (L W X : Nat → Rat) : Prop where
  l : ∀ j, j < n → Sm (L j)
  w : ∀ j, j + 1 < n → Sm (W j)
  x : ∀ j, j < n → Sm (X j)
  lx : ∀ j, j < n → Sm (L j * X j)
  lxx : ∀ j, j < n → Sm (L j * X j + (if 0 < j then X (j - 1) else 0))
  wx : ∀ j, j + 1 < n → Sm (W j * X (j + 1))
def wts (n : Nat) (L W : Nat → Rat) : D := .tuple [tupF n L, tupF (n - 1) W]
def Next (F : Fns) (i : Nat) : Prop := ∀ (n : Nat) (L W X : Nat → Rat) (k : Bool → D → Prop), 1 ≤ n → n ≤ 1000 → NxOk n L W X → k false (tupF n (nxt n L W X)) → F i [wts n L W, tupF n X] k
def tNextL (sm tm : Nat) : Stm :=
  .seq (.unp (.t (.cons (.s 2) (.cons (.s 3) .nil))) (.v 0)) <|
  .seq (.par [4, 5] (.cons (.b1 .len (.v 2)) (.cons (.lst (.nil)) (.nil)))) <|
  .seq (.forS .rng1 (.cons (.v 4) (.nil)) (.s 6) (
    .seq (.set 7 (.call tm none (.cons (.idx (.v 2) (.v 6)) (.cons (.idx (.v 1) (.v 6)) (.nil))))) <|
    .seq (.ifs (.cmp .gtI (.v 6) (.k (.int 0))) (
      .seq (.set 7 (.call sm none (.cons (.v 7) (.cons (.idx (.v 1) (.op .subI (.v 6) (.k (.int 1)))) (.nil))))) <|
      .skip) .skip) <|
    .seq (.ifs (.cmp .ltI (.v 6) (.op .subI (.v 4) (.k (.int 1)))) (
      .seq (.set 7 (.call sm none (.cons (.v 7) (.cons (.call tm none (.cons (.idx (.v 3) (.v 6)) (.cons (.idx (.v 1) (.op .addI (.v 6) (.k (.int 1)))) (.nil)))) (.nil))))) <|
      .skip) .skip) <|
    .seq (.app 5 (.v 7)) <|
    .skip)) <|
  .seq (.ret (.b1 .tupL (.v 5))) <|
  .skip
theorem rowL_succ {n : Nat} {f : Nat → Rat} : rowL n f ++ [fr (f n)] = rowL (n + 1) f := by simp [rowL, List.range_succ]
theorem next_run {sm tm n : Nat} {L W X : Nat → Rat} (S : FSum F sm) (T : FTimes F tm) (h1 : 1 ≤ n) (h2 : n ≤ 1000) (ok : NxOk n L W X) (h : k false (tupF n (nxt n L W X))) : run F ⟨2, false, 8, tNextL sm tm⟩ [wts n L W, tupF n X] k := by
  unfold tNextL wts
  trivial
  refine ⟨by unfold Fits; omega, by omega, ?_⟩
  have e0 : ((n : Int)).toNat = n := by omega
  rw [e0]
  refine loop_inv (fun i e => ∃ s1 s2, e = [.fz (.tuple [tupF n L, tupF (n - 1) W]), .fz (tupF n X), .fz (tupF n L), .fz (tupF (n - 1) W), .fz (.int n), .ow (.list (rowL i (nxt n L W X))), s1, s2]) ⟨_, _, rfl⟩ ?_ ?_
  · rintro i d e nn hd ⟨s1, s2, rfl⟩ hn
    obtain ⟨hi, rfl⟩ := rng_get hd
    have ei : (0 : Int) + (i : Int) * 1 = i := by omega
    rw [ei]
    trivial
    refine ⟨i, ix_nat hi, i, ix_nat hi, ?_⟩
    refine T _ _ _ (ok.l i hi) (ok.x i hi) ?_
    have fin : ∀ (z : Rat) (s1 : Sl), z = nxt n L W X i → nn [.fz (.tuple [tupF n L, tupF (n - 1) W]), .fz (tupF n X), .fz (tupF n L), .fz (tupF (n - 1) W), .fz (.int n), .ow (.list (rowL i (nxt n L W X) ++ [fr z])), s1, .fz (fr z)] := fun z s1 ez => by
      subst ez
      rw [rowL_succ]
      exact hn _ ⟨_, _, rfl⟩
    trivial
    by_cases hp : 0 < (i : Int)
    · rw [if_pos hp]
      have hp' : 0 < i := by omega
      refine ⟨i - 1, ix_int (by omega) (by omega), ?_⟩
      refine S _ _ _ (ok.lx i hi) (ok.x (i - 1) (by omega)) ?_
      trivial
      have lxx := ok.lxx i hi
      rw [if_pos hp'] at lxx
      by_cases hc : (i : Int) < (n : Int) - 1
      · rw [if_pos hc]
        refine ⟨i, ix_nat (by omega), i + 1, ix_int (by omega) (by omega), ?_⟩
        refine T _ _ _ (ok.w i (by omega)) (ok.x (i + 1) (by omega)) ?_
        trivial
        refine S _ _ _ lxx (ok.wx i (by omega)) ?_
        trivial
        refine ⟨by rw [rowL_len]; omega, fin _ _ ?_⟩
        unfold nxt
        rw [if_pos (show i + 1 < n by omega), if_pos hp']
      · rw [if_neg hc]
        refine ⟨by rw [rowL_len]; omega, fin _ _ ?_⟩
        unfold nxt
        rw [if_neg (show ¬ i + 1 < n by omega), if_pos hp', Rat.add_zero]
    · rw [if_neg hp]
      have hp' : ¬ 0 < i := by omega
      have lxx := ok.lxx i hi
      rw [if_neg hp', Rat.add_zero] at lxx
      by_cases hc : (i : Int) < (n : Int) - 1
      · rw [if_pos hc]
        refine ⟨i, ix_nat (by omega), i + 1, ix_int (by omega) (by omega), ?_⟩
        refine T _ _ _ (ok.w i (by omega)) (ok.x (i + 1) (by omega)) ?_
        trivial
        refine S _ _ _ lxx (ok.wx i (by omega)) ?_
        trivial
        refine ⟨by rw [rowL_len]; omega, fin _ _ ?_⟩
        unfold nxt
        rw [if_pos (show i + 1 < n by omega), if_neg hp', Rat.add_zero]
      · rw [if_neg hc]
        refine ⟨by rw [rowL_len]; omega, fin _ _ ?_⟩
        unfold nxt
        rw [if_neg (show ¬ i + 1 < n by omega), if_neg hp', Rat.add_zero, Rat.add_zero]
  · rintro e ⟨s1, s2, rfl⟩
    rw [rng_len]
    trivial
    exact h
/-- the lines of ways' numbers, from the first place on -/
def lineW (n : Nat) (L W : Nat → Rat) : Nat → Nat → Rat
  | 0 => fun k => if k = 0 then 1 else 0
  | t + 1 => nxt n L W (lineW n L W t)
def Line0 (F : Fns) (i : Nat) : Prop := ∀ (n : Nat) (L W : Nat → Rat) (k : Bool → D → Prop), 1 ≤ n → n ≤ 1000 → k false (tupF n (lineW n L W 0)) → F i [wts n L W, .int 0] k
def tWays0 : Stm :=
  .seq (.set 2 (.op .addT (.tup (.cons (.tup (.cons (.k (.int 1)) (.cons (.k (.int 1)) (.nil)))) (.nil))) (.op .mulT (.tup (.cons (.tup (.cons (.k (.int 0)) (.cons (.k (.int 1)) (.nil)))) (.nil))) (.op .subI (.b1 .len (.idx (.v 0) (.k (.int 0)))) (.k (.int 1)))))) <|
  .seq (.forS .rng1 (.cons (.v 1) (.nil)) (.s 3) .nev) <|
  .seq (.ret (.v 2)) <|
  .skip
theorem rep_one {d : D} {n : Nat} : (List.replicate n [d]).flatten = List.replicate n d := by
  induction n with
  | zero => rfl
  | succ n ih => simp [List.replicate_succ, ih]
theorem line0_row {n : Nat} {L W : Nat → Rat} (h : 1 ≤ n) : fr 1 :: List.replicate (n - 1) (fr 0) = rowL n (lineW n L W 0) := by
  apply List.ext_getElem?
  intro i
  unfold rowL
  rw [List.getElem?_map]
  cases i with
  | zero => rw [List.getElem?_range (by omega)]; simp [lineW]
  | succ i =>
    rw [List.getElem?_cons_succ, List.getElem?_replicate]
    by_cases hi : i + 1 < n
    · rw [List.getElem?_range hi, if_pos (by omega)]; simp [lineW]
    · rw [if_neg (by omega), List.getElem?_eq_none (by simpa using Nat.le_of_not_lt hi)]; rfl
theorem line0_run {n : Nat} {L W : Nat → Rat} (h1 : 1 ≤ n) (h2 : n ≤ 1000) (h : k false (tupF n (lineW n L W 0))) : run F ⟨2, false, 4, tWays0⟩ [wts n L W, .int 0] k := by
  unfold tWays0 wts
  trivial
  refine ⟨fits2, by unfold Fits; omega, fits2, by unfold Fits; omega, ⟨by omega, by omega, by omega⟩, ?_⟩
  have e0 : ((n : Int) - 1).toNat = n - 1 := by omega
  rw [rep_one, e0, List.length_replicate, line0_row h1]
  refine ⟨by unfold Fits; omega, ⟨by omega, by omega⟩, ?_⟩
  refine loop_inv (fun i e => e = [.fz (.tuple [tupF n L, tupF (n - 1) W]), .fz (.int 0), .fz (tupF n (lineW n L W 0)), .no]) rfl ?_ ?_
  · intro i d e nn hd
    cases i <;> cases hd
  · rintro e rfl
    trivial
    exact h
/-- the row of weights -/
def rowW (n : Nat) (L W : Nat → Rat) (t : Nat) : Rat := lineW n L W t 0
def RowW (F : Fns) (i : Nat) : Prop := ∀ (n : Nat) (L W : Nat → Rat) (k : Bool → D → Prop), 1 ≤ n → n ≤ 1000 → (∀ t, t < 2 * n → NxOk n L W (lineW n L W t)) → k false (tupF (2 * n) (rowW n L W)) → F i [wts n L W] k
def tRowW (w0 nx : Nat) : Stm :=
  .seq (.par [1, 2] (.cons (.lst (.nil)) (.cons (.call w0 none (.cons (.v 0) (.cons (.k (.int 0)) (.nil)))) (.nil)))) <|
  .seq (.forS .rng1 (.cons (.op .mulI (.k (.int 2)) (.b1 .len (.idx (.v 0) (.k (.int 0))))) (.nil)) (.s 3) (
    .seq (.app 1 (.idx (.v 2) (.k (.int 0)))) <|
    .seq (.set 2 (.call nx none (.cons (.v 0) (.cons (.v 2) (.nil))))) <|
    .skip)) <|
  .seq (.ret (.b1 .tupL (.v 1))) <|
  .skip
theorem rowW_run {w0 nx n : Nat} {L W : Nat → Rat} (Z : Line0 F w0) (N : Next F nx) (h1 : 1 ≤ n) (h2 : n ≤ 1000) (ok : ∀ t, t < 2 * n → NxOk n L W (lineW n L W t)) (h : k false (tupF (2 * n) (rowW n L W))) : run F ⟨1, false, 4, tRowW w0 nx⟩ [wts n L W] k := by
  unfold tRowW
  trivial
  refine ⟨by unfold Fits; omega, ?_⟩
  refine Z n L W _ h1 h2 ?_
  unfold wts
  trivial
  refine ⟨.inl (by decide), ⟨by omega, by omega⟩, ?_⟩
  have e0 : (2 * (n : Int)).toNat = 2 * n := by omega
  rw [e0]
  refine loop_inv (fun i e => ∃ s, e = [.fz (.tuple [tupF n L, tupF (n - 1) W]), .ow (.list (rowL i (rowW n L W))), .fz (tupF n (lineW n L W i)), s]) ⟨_, rfl⟩ ?_ ?_
  · rintro i d e nn hd ⟨s, rfl⟩ hn
    obtain ⟨hi, rfl⟩ := rng_get hd
    trivial
    refine ⟨0, ix_nat (i := 0) (by omega), by rw [rowL_len]; omega, ?_⟩
    refine N n L W _ _ h1 h2 (ok i hi) ?_
    trivial
    have e1 : rowL i (rowW n L W) ++ [fr (lineW n L W i 0)] = rowL (i + 1) (rowW n L W) := rowL_succ
    rw [e1]
    exact hn _ ⟨_, rfl⟩
  · rintro e ⟨s, rfl⟩
    rw [rng_len]
    trivial
    exact h
end
end Ev
/-! EvCnt: numbers of ways that are whole. -/
namespace Ev
open PySem L2
theorem fr_nat (x : Nat) : fr (x : Rat) = .tuple [.int (x : Nat), .int 1] := by
  unfold fr
  rw [Rat.num_natCast, Rat.den_natCast]
  rfl
theorem sm_nat {x : Nat} (h : x < 2 ^ 1000) : Sm (x : Rat) := by
  unfold Sm
  rw [Rat.num_natCast, Rat.den_natCast, Int.natAbs_natCast]
  exact ⟨Nat.lt_of_lt_of_le h (pw_le (by decide)), Nat.lt_of_lt_of_le (show 1 < pw 1 by unfold pw; decide) (pw_le (by decide))⟩
def cst (f : Nat → Nat) (k : Nat) : Rat := (f k : Nat)
theorem line_cast {n : Nat} {l w : Nat → Nat} : ∀ t k, lineW n (cst l) (cst w) t k = (lineN n l w t k : Nat)
  | 0, k => by
    unfold lineW lineN
    by_cases h : k = 0
    · simp [h]
    · simp [h]
  | t + 1, k => by
    show nxt n (cst l) (cst w) (lineW n (cst l) (cst w) t) k = (nxtN n l w (lineN n l w t) k : Nat)
    unfold nxt nxtN
    rw [line_cast t k, line_cast t (k - 1), line_cast t (k + 1)]
    unfold cst
    by_cases h1 : 0 < k <;> by_cases h2 : k + 1 < n <;> simp [h1, h2, Rat.add_zero]
theorem big_pow {c t : Nat} (hc : c ≤ 64) (ht : t ≤ 40) : (2 * c + 1) ^ t < 2 ^ 400 := by
  have h1 : (2 * c + 1) ^ t ≤ 256 ^ t := Nat.pow_le_pow_left (by omega) t
  have h2 : 256 ^ t ≤ 256 ^ 40 := Nat.pow_le_pow_right (by decide) ht
  have h3 : 256 ^ 40 < 2 ^ 400 := by decide
  omega
structure LwOk (n : Nat) (l w : Nat → Nat) : Prop where
  l : ∀ j, j < n → l j ≤ 64
  w : ∀ j, j + 1 < n → w j ≤ 64
theorem LwOk.nx {n t : Nat} {l w : Nat → Nat} (h : LwOk n l w) (ht : t ≤ 40) : NxOk n (cst l) (cst w) (lineW n (cst l) (cst w) t) := by
  have lb : ∀ k, k < n → lineN n l w t k < 2 ^ 400 := fun k hk => Nat.lt_of_le_of_lt (line_le h.l h.w t k hk) (big_pow (Nat.le_refl 64) ht)
  have p1 : (2 : Nat) ^ 400 * 64 + 2 ^ 400 < 2 ^ 1000 := by decide
  have m1 : ∀ {a b : Nat}, a ≤ 64 → b < 2 ^ 400 → a * b ≤ 2 ^ 400 * 64 := fun {a b} ha hb => by
    have := Nat.mul_le_mul ha (Nat.le_of_lt hb); rw [Nat.mul_comm (2 ^ 400)]; exact this
  refine ⟨fun j hj => sm_nat (by have := h.l j hj; omega), fun j hj => sm_nat (by have := h.w j hj; omega), fun j hj => ?_, fun j hj => ?_, fun j hj => ?_, fun j hj => ?_⟩
  · rw [line_cast]; exact sm_nat (by have := lb j hj; omega)
  · rw [line_cast]
    unfold cst
    rw [← Rat.natCast_mul]
    exact sm_nat (by have := m1 (h.l j hj) (lb j hj); omega)
  · rw [line_cast, line_cast]
    unfold cst
    rw [← Rat.natCast_mul]
    have a1 := m1 (h.l j hj) (lb j hj)
    by_cases h0 : 0 < j
    · rw [if_pos h0, ← Rat.natCast_add]
      exact sm_nat (by have := lb (j - 1) (by omega); omega)
    · rw [if_neg h0, Rat.add_zero]
      exact sm_nat (by omega)
  · rw [line_cast]
    unfold cst
    rw [← Rat.natCast_mul]
    exact sm_nat (by have := m1 (h.w j hj) (lb (j + 1) hj); omega)
theorem so_lw {s : So} {n : Nat} (h : n ≤ 8) : LwOk n (lev s) (dwn s) := by
  refine ⟨fun j hj => ?_, fun j hj => ?_⟩
  · cases s <;> simp only [lev] <;> omega
  · cases s <;> simp only [dwn]
    · omega
    · omega
    · omega
    · have : (j + 1) * (j + 1) ≤ 7 * 7 := Nat.mul_le_mul (by omega) (by omega)
      omega
theorem dwn_pos {s : So} {j : Nat} : 0 < dwn s j := by
  cases s <;> simp only [dwn]
  · exact Nat.one_pos
  · omega
  · omega
  · exact Nat.mul_pos (by omega) (by omega)
def swts (s : So) (n : Nat) : D := wts n (cst (lev s)) (cst (dwn s))
def WayNums (F : Fns) (i : Nat) : Prop := ∀ (n : Nat) (L W : Nat → Rat) (t : Nat) (k : Bool → D → Prop), 1 ≤ n → n ≤ 1000 → t ≤ 1000 → (∀ u, u < t → NxOk n L W (lineW n L W u)) → k false (tupF n (lineW n L W t)) → F i [wts n L W, .int (t : Nat)] k
def SortW (F : Fns) (i : Nat) : Prop := ∀ (s : So) (n : Nat) (k : Bool → D → Prop), 1 ≤ n → n ≤ 1000 → k false (swts s n) → F i [s.d, .int (n : Nat)] k
def IsFr (F : Fns) (i : Nat) : Prop := ∀ (q : Rat) (k : Bool → D → Prop), k false (.bool true) → F i [fr q] k
def IsFrT (F : Fns) (i : Nat) : Prop := ∀ (n : Nat) (f : Nat → Rat) (k : Bool → D → Prop), k false (.bool true) → F i [tupF n f] k
def IsWts (F : Fns) (i : Nat) : Prop := ∀ (n : Nat) (L W : Nat → Rat) (k : Bool → D → Prop), 1 ≤ n → n ≤ 1000 → (∀ j, j + 1 < n → W j ≠ 0) → k false (.bool true) → F i [wts n L W] k
def TldCnt (F : Fns) (i : Nat) : Prop := ∀ (s : So) (t n : Nat) (k : Bool → D → Prop), 1 ≤ n → n ≤ 8 → t ≤ 40 → k false (.int (lineN n (lev s) (dwn s) t 0 : Nat)) → F i [s.d, .int (t : Nat), .int (n : Nat)] k
def mapN (n : Nat) (f : Nat → Nat) : List Nat := (List.range n).map f
theorem mapN_len {n : Nat} {f : Nat → Nat} : (mapN n f).length = n := by simp [mapN]
theorem mapN_get {n i : Nat} {f : Nat → Nat} (h : i < n) : (mapN n f).getD i 0 = f i := by
  unfold mapN
  rw [List.getD_eq_getElem?_getD, List.getElem?_map, List.getElem?_range h]
  rfl
theorem mapN_succ {n : Nat} {f : Nat → Nat} : nats (mapN n f) ++ [.int (f n : Nat)] = nats (mapN (n + 1) f) := by
  unfold mapN
  rw [List.range_succ, List.map_append, nats_app]
  rfl
def LNums (F : Fns) (i : Nat) : Prop := ∀ (n : Nat) (l w : Nat → Nat) (t : Nat) (k : Bool → D → Prop), 1 ≤ n → n ≤ 1000 → t ≤ 1000 → LwOk n l w → k false (.int (lineN n l w t 0 : Nat)) → F i [lN (mapN n l), lN (mapN (n - 1) w), .int (t : Nat)] k
end Ev
/-! EvTellT: told ways are tame. -/
namespace Ev
open PySem L2
theorem lch_le {s : So} {h l : Nat} (hh : h ≤ 8) : lch s h l ≤ 100 := by
  unfold lch
  split
  · omega
  · split
    · cases s <;> simp only [lev] <;> omega
    · cases s <;> simp only
      · omega
      · omega
      · omega
      · have : h * h ≤ 8 * 8 := Nat.mul_le_mul hh hh
        omega
theorem cho_lt {s : So} {w : List Nat} (hw : ∀ x ∈ w, x ≤ 8) : ∀ {k : Nat} {c : List Nat}, c ∈ choAt s w k → ∀ x ∈ c, x < 100
  | 0, c, h => by rw [List.mem_singleton.mp h]; exact fun x hx => (nomatch hx)
  | k + 1, c, h => by
    obtain ⟨q, hq, hp⟩ := List.mem_flatMap.mp h
    obtain ⟨l, hl, rfl⟩ := List.mem_map.mp hp
    intro x hx
    rcases List.mem_append.mp hx with hx | hx
    · exact cho_lt hw hq x hx
    · rw [List.mem_singleton.mp hx]
      have := List.mem_range.mp hl
      have h8 : w.getD k 0 ≤ 8 := by
        rw [List.getD_eq_getElem?_getD]
        cases e : w[k]? with
        | none => exact Nat.zero_le _
        | some a => exact hw a (List.mem_of_getElem? e)
      have := lch_le (s := s) (l := w.getD (k + 1) 0) h8
      omega
theorem tw_tm {p : TW} (h1 : p.1.length ≤ 9) (h2 : p.2.length ≤ 8) (h3 : ∀ x ∈ p.1, x < 100) (h4 : ∀ x ∈ p.2, x < 100) : Tm 100 2 19 (twD p) :=
  ((Tms.cons (Tms.nats h3).tup (Tms.cons (Tms.nats h4).tup (Tms.nil.mono (Nat.le_refl 100) (Nat.zero_le 1) (Nat.zero_le 0)))).tup).mono (Nat.le_refl _) (Nat.le_refl _) (by omega)
theorem tell_tm {s : So} {n : Nat} (hn : n ≤ s.most) {p : TW} (hp : p ∈ ltell s n) : Tm 100 2 19 (twD p) := by
  have h8 := most_le s
  have hp := isort_perm.mem_iff.mp hp
  obtain ⟨w, hw, hc⟩ := List.mem_flatMap.mp hp
  obtain ⟨c, hc2, rfl⟩ := List.mem_map.mp hc
  obtain ⟨w1, w2, w3⟩ := lways_len hw
  have w4 : ∀ x ∈ w, x ≤ 8 := fun x hx => by have := w3 x hx; omega
  have c1 := cho_len hc2
  exact tw_tm (by simp only; omega) (by simp only; omega) (fun x hx => by have := w4 x hx; omega) (cho_lt w4 hc2)
theorem tell_thou {s : So} {n : Nat} (h : n ≤ s.most) : (ltell s n).length ≤ 1000 := by
  have ht := tell_ok s h
  unfold tellOk at ht
  simp only [Bool.and_eq_true] at ht
  have := of_decide_eq_true ht.2
  rwa [tell_eq h] at this
theorem tell_shows {s : So} {n : Nat} (h : n ≤ s.most) : Shows (.list ((ltell s n).map twD)) := by
  have := (Tms.all (M := 100) (a := 2) (b := 19) (xs := (ltell s n).map twD) fun d hd => by
    obtain ⟨p, hp, rfl⟩ := List.mem_map.mp hd
    exact tell_tm h hp).lst
  refine this.shows (by decide) (by decide) ?_
  rw [List.length_map]
  have := tell_thou h
  omega
theorem lch_lev {s : So} {h : Nat} : lch s h h = lev s h := by unfold lch; rw [if_neg (Nat.lt_irrefl h), if_pos rfl]
theorem lch_dwn {s : So} {h : Nat} : lch s (h + 1) h = dwn s h := by
  unfold lch
  rw [if_neg (by omega), if_neg (by omega)]
  cases s <;> rfl
theorem map_fr {n : Nat} {l : Nat → Nat} : (mapN n l).map (fun x => PyData.tuple [.int (x : Nat), .int 1]) = rowL n (cst l) := by
  unfold mapN rowL
  rw [List.map_map]
  refine List.map_congr_left fun i _ => ?_
  unfold cst
  rw [fr_nat]
  rfl
theorem shows_nat {x : Nat} (h : x < 2 ^ 1000) : Shows (.int (x : Nat)) := (Wl.int (by
  by_cases h0 : x = 0
  · subst h0; decide
  · rw [Int.natAbs_natCast]
    exact Nat.lt_trans ((Nat.log2_lt h0).mpr h) (by decide))).shows (by decide) (by decide)
theorem line_small {n t : Nat} {l w : Nat → Nat} (h : LwOk n l w) (h1 : 1 ≤ n) (ht : t ≤ 40) : lineN n l w t 0 < 2 ^ 1000 :=
  Nat.lt_trans (Nat.lt_of_le_of_lt (line_le h.l h.w t 0 (by omega)) (big_pow (Nat.le_refl 64) ht)) (by decide)
theorem swts_shows {s : So} {n : Nat} (h1 : 1 ≤ n) (h : n ≤ 8) : Shows (swts s n) := by
  have ok := so_lw (s := s) h
  have e : ∀ (m : Nat) (f : Nat → Nat), (∀ j, j < m → f j ≤ 64) → Tms 100 1 (m * 3) (rowL m (cst f)) := fun m f hf => by
    have := Tms.all (M := 100) (a := 1) (b := 2) (xs := rowL m (cst f)) fun d hd => by
      obtain ⟨j, hj, rfl⟩ := List.mem_map.mp hd
      unfold cst
      rw [fr_nat]
      have := hf j (List.mem_range.mp hj)
      exact ((Tms.cons (Tm.int (by rw [Int.natAbs_natCast]; omega)) (Tms.cons (Tm.int (by decide)) Tms.nil)).tup).mono (Nat.le_refl _) (Nat.le_refl _) (by omega)
    rwa [rowL_len] at this
  have := (Tms.cons (e n _ ok.l).tup (Tms.cons (e (n - 1) _ fun j hj => ok.w j (by omega)).tup (Tms.nil.mono (Nat.le_refl 100) (Nat.zero_le 2) (Nat.zero_le 0)))).tup
  exact this.shows (by decide) (by decide) (by omega)
theorem max_nats {l : List Nat} {m : Int} (h1 : m ∈ l.map fun (x : Nat) => (x : Int)) (h2 : ∀ y ∈ l.map fun (x : Nat) => (x : Int), y ≤ m) : m = (maxN l : Nat) := by
  have key : ∀ (l : List Nat) (a : Nat), l.foldl max a ∈ a :: l ∧ ∀ y ∈ a :: l, y ≤ l.foldl max a := by
    intro l
    induction l with
    | nil => intro a; simp
    | cons b r ih =>
      intro a
      obtain ⟨i1, i2⟩ := ih (max a b)
      simp only [List.foldl_cons]
      refine ⟨?_, fun y hy => ?_⟩
      · rcases List.mem_cons.mp i1 with e | e
        · rw [e]
          by_cases hh : a ≤ b
          · rw [Nat.max_eq_right hh]; simp
          · rw [Nat.max_eq_left (by omega)]; simp
        · exact List.mem_cons_of_mem _ (List.mem_cons_of_mem _ e)
      · have h3 := i2 (max a b) List.mem_cons_self
        rcases List.mem_cons.mp hy with rfl | hy
        · omega
        · rcases List.mem_cons.mp hy with rfl | hy
          · omega
          · exact i2 y (List.mem_cons_of_mem _ hy)
  obtain ⟨k1, k2⟩ := key l 0
  obtain ⟨x, hx, rfl⟩ := List.mem_map.mp h1
  unfold maxN
  have a1 := k2 x (List.mem_cons_of_mem _ hx)
  rcases List.mem_cons.mp k1 with e | e
  · rw [e] at a1 ⊢
    have := Nat.le_zero.mp a1
    omega
  · have := h2 _ (List.mem_map.mpr ⟨_, e, rfl⟩)
    omega
theorem ints_nats : ∀ l : List Nat, intsOf? (nats l) = some (l.map fun (x : Nat) => (x : Int))
  | [] => rfl
  | a :: r => by rw [nats_cons, intsOf?, ints_nats r]; rfl
end Ev
/-! Gen57: the defs of the law k57. -/
namespace Ev
open PySem PySem.Spec PyProof.Rows L2
abbrev prog : Program := PySem.Challenge.pw_momentpaths_k57_whole_told_ways_of_sorts
def top (i : Nat) : Stmt := prog.main.body.getD i (.Pass ⟨0, 0, 0, 0⟩)
def nms : List (Str × Bool) := [("lowest", false), ("is_fraction", false), ("fraction_sum", false), ("fraction_times", false), ("is_fraction_tuple", false), ("is_weights", false), ("is_level_way", false), ("next_way_numbers", false), ("way_numbers", false), ("row_of_weights", false), ("level_choices", false), ("down_choices", false), ("step_choices", false), ("is_told_way", false), ("told_ways", false), ("sort_weights", false), ("told_way_count", false), ("_law_pick", true), ("_law_of", true), ("_law_is_int", false), ("_law_choices", false), ("_law_ways", false), ("_law_told_ways", false), ("_law_is_told", false), ("_law_numbers", false), ("_law_bent", true)]
def tn : Tn := ⟨fun f => nms[f]?, true⟩
abbrev i_lowest : Nat := 0
abbrev i_is_fraction : Nat := 1
abbrev i_fraction_sum : Nat := 2
abbrev i_fraction_times : Nat := 3
abbrev i_is_fraction_tuple : Nat := 4
abbrev i_is_weights : Nat := 5
abbrev i_is_level_way : Nat := 6
abbrev i_next_way_numbers : Nat := 7
abbrev i_way_numbers : Nat := 8
abbrev i_row_of_weights : Nat := 9
abbrev i_level_choices : Nat := 10
abbrev i_down_choices : Nat := 11
abbrev i_step_choices : Nat := 12
abbrev i_is_told_way : Nat := 13
abbrev i_told_ways : Nat := 14
abbrev i_sort_weights : Nat := 15
abbrev i_told_way_count : Nat := 16
abbrev i__law_pick : Nat := 17
abbrev i__law_of : Nat := 18
abbrev i__law_is_int : Nat := 19
abbrev i__law_choices : Nat := 20
abbrev i__law_ways : Nat := 21
abbrev i__law_told_ways : Nat := 22
abbrev i__law_is_told : Nat := 23
abbrev i__law_numbers : Nat := 24
abbrev i__law_bent : Nat := 25
abbrev s_lowest : Stmt := top 2
def d_lowest : He.DefD := ⟨("lowest", none), "lowest", "lowest", defArgs s_lowest, defBody s_lowest, defScope s_lowest, [], []⟩
abbrev s_is_fraction : Stmt := top 3
def d_is_fraction : He.DefD := ⟨("is_fraction", none), "is_fraction", "is_fraction", defArgs s_is_fraction, defBody s_is_fraction, defScope s_is_fraction, [], []⟩
abbrev s_fraction_sum : Stmt := top 4
def d_fraction_sum : He.DefD := ⟨("fraction_sum", none), "fraction_sum", "fraction_sum", defArgs s_fraction_sum, defBody s_fraction_sum, defScope s_fraction_sum, [], []⟩
abbrev s_fraction_times : Stmt := top 5
def d_fraction_times : He.DefD := ⟨("fraction_times", none), "fraction_times", "fraction_times", defArgs s_fraction_times, defBody s_fraction_times, defScope s_fraction_times, [], []⟩
abbrev s_is_fraction_tuple : Stmt := top 7
def d_is_fraction_tuple : He.DefD := ⟨("is_fraction_tuple", none), "is_fraction_tuple", "is_fraction_tuple", defArgs s_is_fraction_tuple, defBody s_is_fraction_tuple, defScope s_is_fraction_tuple, [], []⟩
abbrev s_is_weights : Stmt := top 8
def d_is_weights : He.DefD := ⟨("is_weights", none), "is_weights", "is_weights", defArgs s_is_weights, defBody s_is_weights, defScope s_is_weights, [], []⟩
abbrev s_is_level_way : Stmt := top 9
def d_is_level_way : He.DefD := ⟨("is_level_way", none), "is_level_way", "is_level_way", defArgs s_is_level_way, defBody s_is_level_way, defScope s_is_level_way, [], []⟩
abbrev s_next_way_numbers : Stmt := top 10
def d_next_way_numbers : He.DefD := ⟨("next_way_numbers", none), "next_way_numbers", "next_way_numbers", defArgs s_next_way_numbers, defBody s_next_way_numbers, defScope s_next_way_numbers, [], []⟩
abbrev s_way_numbers : Stmt := top 11
def d_way_numbers : He.DefD := ⟨("way_numbers", none), "way_numbers", "way_numbers", defArgs s_way_numbers, defBody s_way_numbers, defScope s_way_numbers, [], []⟩
abbrev s_row_of_weights : Stmt := top 12
def d_row_of_weights : He.DefD := ⟨("row_of_weights", none), "row_of_weights", "row_of_weights", defArgs s_row_of_weights, defBody s_row_of_weights, defScope s_row_of_weights, [], []⟩
abbrev s_level_choices : Stmt := top 14
def d_level_choices : He.DefD := ⟨("level_choices", none), "level_choices", "level_choices", defArgs s_level_choices, defBody s_level_choices, defScope s_level_choices, [], []⟩
abbrev s_down_choices : Stmt := top 15
def d_down_choices : He.DefD := ⟨("down_choices", none), "down_choices", "down_choices", defArgs s_down_choices, defBody s_down_choices, defScope s_down_choices, [], []⟩
abbrev s_step_choices : Stmt := top 16
def d_step_choices : He.DefD := ⟨("step_choices", none), "step_choices", "step_choices", defArgs s_step_choices, defBody s_step_choices, defScope s_step_choices, [], []⟩
abbrev s_is_told_way : Stmt := top 17
def d_is_told_way : He.DefD := ⟨("is_told_way", none), "is_told_way", "is_told_way", defArgs s_is_told_way, defBody s_is_told_way, defScope s_is_told_way, [], []⟩
abbrev s_told_ways : Stmt := top 18
def d_told_ways : He.DefD := ⟨("told_ways", none), "told_ways", "told_ways", defArgs s_told_ways, defBody s_told_ways, defScope s_told_ways, [], []⟩
abbrev s_sort_weights : Stmt := top 19
def d_sort_weights : He.DefD := ⟨("sort_weights", none), "sort_weights", "sort_weights", defArgs s_sort_weights, defBody s_sort_weights, defScope s_sort_weights, [], []⟩
abbrev s_told_way_count : Stmt := top 20
def d_told_way_count : He.DefD := ⟨("told_way_count", none), "told_way_count", "told_way_count", defArgs s_told_way_count, defBody s_told_way_count, defScope s_told_way_count, [], []⟩
abbrev s__law_source : Stmt := top 22
def d__law_source : He.DefD := ⟨("_law_source", none), "_law_source", "_law_source", defArgs s__law_source, defBody s__law_source, defScope s__law_source, [], []⟩
abbrev s__law_pick : Stmt := top 23
def d__law_pick : He.DefD := ⟨("_law_pick", none), "_law_pick", "_law_pick", defArgs s__law_pick, defBody s__law_pick, defScope s__law_pick, [], []⟩
abbrev s__law_of : Stmt := top 24
def d__law_of : He.DefD := ⟨("_law_of", none), "_law_of", "_law_of", defArgs s__law_of, defBody s__law_of, defScope s__law_of, [], []⟩
abbrev s__law_is_int : Stmt := top 25
def d__law_is_int : He.DefD := ⟨("_law_is_int", none), "_law_is_int", "_law_is_int", defArgs s__law_is_int, defBody s__law_is_int, defScope s__law_is_int, [], []⟩
abbrev s__law_choices : Stmt := top 26
def d__law_choices : He.DefD := ⟨("_law_choices", none), "_law_choices", "_law_choices", defArgs s__law_choices, defBody s__law_choices, defScope s__law_choices, [], []⟩
abbrev s__law_ways : Stmt := top 27
def d__law_ways : He.DefD := ⟨("_law_ways", none), "_law_ways", "_law_ways", defArgs s__law_ways, defBody s__law_ways, defScope s__law_ways, [], []⟩
abbrev s__law_told_ways : Stmt := top 28
def d__law_told_ways : He.DefD := ⟨("_law_told_ways", none), "_law_told_ways", "_law_told_ways", defArgs s__law_told_ways, defBody s__law_told_ways, defScope s__law_told_ways, [], []⟩
abbrev s__law_is_told : Stmt := top 29
def d__law_is_told : He.DefD := ⟨("_law_is_told", none), "_law_is_told", "_law_is_told", defArgs s__law_is_told, defBody s__law_is_told, defScope s__law_is_told, [], []⟩
abbrev s__law_numbers : Stmt := top 30
def d__law_numbers : He.DefD := ⟨("_law_numbers", none), "_law_numbers", "_law_numbers", defArgs s__law_numbers, defBody s__law_numbers, defScope s__law_numbers, [], []⟩
abbrev s__law_bent : Stmt := top 31
def d__law_bent : He.DefD := ⟨("_law_bent", none), "_law_bent", "_law_bent", defArgs s__law_bent, defBody s__law_bent, defScope s__law_bent, [], []⟩
abbrev s_law : Stmt := top 32
def d_law : He.DefD := ⟨("law", none), "law", "law", defArgs s_law, defBody s_law, defScope s_law, [], []⟩
def n_lowest : List Str := ["number", "parts", "both"]
theorem sc_lowest : FnScope n_lowest ["number", "parts"] (defScope s_lowest) := ⟨rfl, rfl, rfl, by decide +kernel, rfl, by decide +kernel, by decide +kernel⟩
def b_lowest : Stm :=
  .seq (.set 2 (.b2 .gcd (.v 0) (.v 1))) <|
  .seq (.ret (.tup (.cons (.op .fdivI (.v 0) (.v 2)) (.cons (.op .fdivI (.v 1) (.v 2)) (.nil))))) <|
  .skip
def f_lowest : Df := ⟨2, false, 3, b_lowest⟩
theorem ck_lowest : chkS tn n_lowest (defScope s_lowest) (fun _ => true) b_lowest (.inr (defBody s_lowest)) = true := by decide +kernel
def n_is_fraction : List Str := ["value", "one"]
theorem sc_is_fraction : FnScope n_is_fraction ["value"] (defScope s_is_fraction) := ⟨rfl, rfl, rfl, by decide +kernel, rfl, by decide +kernel, by decide +kernel⟩
def b_is_fraction_t2 : Stm :=
  .seq (.ret (.and (.cmp .gtI (.idx (.v 0) (.k (.int 1))) (.k (.int 0))) (.cmp .eqI (.b2 .gcd (.idx (.v 0) (.k (.int 0))) (.idx (.v 0) (.k (.int 1)))) (.k (.int 1))))) <|
  .skip
def b_is_fraction_t1 : Stm :=
  .seq (.ifs (.not (.b1 .all (.comp [1] .tup (.v 0) (.s 1) (.k (.bool true)) (.and (.b1 .isI (.v 1)) (.not (.b1 .isB (.v 1))))))) .nev .skip) <|
  b_is_fraction_t2
def b_is_fraction : Stm :=
  .seq (.ifs (.or (.not (.b1 .isT (.v 0))) (.cmp .neI (.b1 .len (.v 0)) (.k (.int 2)))) .nev .skip) <|
  b_is_fraction_t1
def f_is_fraction : Df := ⟨1, false, 2, b_is_fraction⟩
theorem ck_is_fraction : chkS tn n_is_fraction (defScope s_is_fraction) (fun _ => true) b_is_fraction (.inr (defBody s_is_fraction)) = true := by decide +kernel
def n_fraction_sum : List Str := ["one", "other"]
theorem sc_fraction_sum : FnScope n_fraction_sum ["one", "other"] (defScope s_fraction_sum) := ⟨rfl, rfl, rfl, by decide +kernel, rfl, by decide +kernel, by decide +kernel⟩
def b_fraction_sum : Stm :=
  .seq (.ret (.call 0 none (.cons (.op .addI (.op .mulI (.idx (.v 0) (.k (.int 0))) (.idx (.v 1) (.k (.int 1)))) (.op .mulI (.idx (.v 1) (.k (.int 0))) (.idx (.v 0) (.k (.int 1))))) (.cons (.op .mulI (.idx (.v 0) (.k (.int 1))) (.idx (.v 1) (.k (.int 1)))) (.nil))))) <|
  .skip
def f_fraction_sum : Df := ⟨2, false, 2, b_fraction_sum⟩
theorem ck_fraction_sum : chkS tn n_fraction_sum (defScope s_fraction_sum) (fun _ => true) b_fraction_sum (.inr (defBody s_fraction_sum)) = true := by decide +kernel
def n_fraction_times : List Str := ["one", "other"]
theorem sc_fraction_times : FnScope n_fraction_times ["one", "other"] (defScope s_fraction_times) := ⟨rfl, rfl, rfl, by decide +kernel, rfl, by decide +kernel, by decide +kernel⟩
def b_fraction_times : Stm :=
  .seq (.ret (.call 0 none (.cons (.op .mulI (.idx (.v 0) (.k (.int 0))) (.idx (.v 1) (.k (.int 0)))) (.cons (.op .mulI (.idx (.v 0) (.k (.int 1))) (.idx (.v 1) (.k (.int 1)))) (.nil))))) <|
  .skip
def f_fraction_times : Df := ⟨2, false, 2, b_fraction_times⟩
theorem ck_fraction_times : chkS tn n_fraction_times (defScope s_fraction_times) (fun _ => true) b_fraction_times (.inr (defBody s_fraction_times)) = true := by decide +kernel
def n_is_fraction_tuple : List Str := ["value", "one"]
theorem sc_is_fraction_tuple : FnScope n_is_fraction_tuple ["value"] (defScope s_is_fraction_tuple) := ⟨rfl, rfl, rfl, by decide +kernel, rfl, by decide +kernel, by decide +kernel⟩
def b_is_fraction_tuple : Stm :=
  .seq (.ret (.and (.b1 .isT (.v 0)) (.b1 .all (.comp [1] .tup (.v 0) (.s 1) (.k (.bool true)) (.call 1 none (.cons (.v 1) (.nil))))))) <|
  .skip
def f_is_fraction_tuple : Df := ⟨1, false, 2, b_is_fraction_tuple⟩
theorem ck_is_fraction_tuple : chkS tn n_is_fraction_tuple (defScope s_is_fraction_tuple) (fun _ => true) b_is_fraction_tuple (.inr (defBody s_is_fraction_tuple)) = true := by decide +kernel
def n_is_weights : List Str := ["value", "one", "levels", "downs"]
theorem sc_is_weights : FnScope n_is_weights ["value"] (defScope s_is_weights) := ⟨rfl, rfl, rfl, by decide +kernel, rfl, by decide +kernel, by decide +kernel⟩
def b_is_weights_t1 : Stm :=
  .seq (.unp (.t (.cons (.s 2) (.cons (.s 3) .nil))) (.v 0)) <|
  .seq (.ret (.and (.cmp .gtI (.b1 .len (.v 2)) (.k (.int 0))) (.and (.cmp .eqI (.b1 .len (.v 3)) (.op .subI (.b1 .len (.v 2)) (.k (.int 1)))) (.cmp .eq (.comp [1] .tup (.v 3) (.s 1) (.cmp .eqI (.idx (.v 1) (.k (.int 0))) (.k (.int 0))) (.v 1)) (.lst (.nil)))))) <|
  .skip
def b_is_weights : Stm :=
  .seq (.ifs (.or (.not (.b1 .isT (.v 0))) (.or (.cmp .neI (.b1 .len (.v 0)) (.k (.int 2))) (.not (.b1 .all (.comp [1] .tup (.v 0) (.s 1) (.k (.bool true)) (.call 4 none (.cons (.v 1) (.nil)))))))) .nev .skip) <|
  b_is_weights_t1
def f_is_weights : Df := ⟨1, false, 4, b_is_weights⟩
theorem ck_is_weights : chkS tn n_is_weights (defScope s_is_weights) (fun _ => true) b_is_weights (.inr (defBody s_is_weights)) = true := by decide +kernel
def n_is_level_way : List Str := ["value", "one", "k"]
theorem sc_is_level_way : FnScope n_is_level_way ["value"] (defScope s_is_level_way) := ⟨rfl, rfl, rfl, by decide +kernel, rfl, by decide +kernel, by decide +kernel⟩
def b_is_level_way_t2 : Stm :=
  .seq (.ret (.cmp .eq (.comp [2] .rng2 (.cons (.k (.int 1)) (.cons (.b1 .len (.v 0)) (.nil))) (.s 2) (.cmp .gtI (.b1 .abs (.op .subI (.idx (.v 0) (.v 2)) (.idx (.v 0) (.op .subI (.v 2) (.k (.int 1)))))) (.k (.int 1))) (.v 2)) (.lst (.nil)))) <|
  .skip
def b_is_level_way_t1 : Stm :=
  .seq (.ifs (.not (.b1 .all (.comp [1] .tup (.v 0) (.s 1) (.k (.bool true)) (.and (.b1 .isI (.v 1)) (.and (.not (.b1 .isB (.v 1))) (.cmp .geI (.v 1) (.k (.int 0)))))))) (
    .seq (.ret (.k (.bool false))) <|
    .skip) .skip) <|
  b_is_level_way_t2
def b_is_level_way : Stm :=
  .seq (.ifs (.or (.not (.b1 .isT (.v 0))) (.cmp .eq (.v 0) (.tup (.nil)))) (
    .seq (.ret (.k (.bool false))) <|
    .skip) .skip) <|
  b_is_level_way_t1
def f_is_level_way : Df := ⟨1, false, 3, b_is_level_way⟩
theorem ck_is_level_way : chkS tn n_is_level_way (defScope s_is_level_way) (fun _ => true) b_is_level_way (.inr (defBody s_is_level_way)) = true := by decide +kernel
def n_next_way_numbers : List Str := ["weights", "line", "levels", "downs", "n", "found", "k", "number"]
theorem sc_next_way_numbers : FnScope n_next_way_numbers ["weights", "line"] (defScope s_next_way_numbers) := ⟨rfl, rfl, rfl, by decide +kernel, rfl, by decide +kernel, by decide +kernel⟩
def b_next_way_numbers_t3 : Stm :=
  .seq (.app 5 (.v 7)) <|
  .skip
def b_next_way_numbers_t2 : Stm :=
  .seq (.ifs (.cmp .ltI (.v 6) (.op .subI (.v 4) (.k (.int 1)))) (
    .seq (.set 7 (.call 2 none (.cons (.v 7) (.cons (.call 3 none (.cons (.idx (.v 3) (.v 6)) (.cons (.idx (.v 1) (.op .addI (.v 6) (.k (.int 1)))) (.nil)))) (.nil))))) <|
    .skip) .skip) <|
  b_next_way_numbers_t3
def b_next_way_numbers_l1 : Stm :=
  .seq (.set 7 (.call 3 none (.cons (.idx (.v 2) (.v 6)) (.cons (.idx (.v 1) (.v 6)) (.nil))))) <|
  .seq (.ifs (.cmp .gtI (.v 6) (.k (.int 0))) (
    .seq (.set 7 (.call 2 none (.cons (.v 7) (.cons (.idx (.v 1) (.op .subI (.v 6) (.k (.int 1)))) (.nil))))) <|
    .skip) .skip) <|
  b_next_way_numbers_t2
def b_next_way_numbers_t4 : Stm :=
  .seq (.ret (.b1 .tupL (.v 5))) <|
  .skip
def b_next_way_numbers : Stm :=
  .seq (.unp (.t (.cons (.s 2) (.cons (.s 3) .nil))) (.v 0)) <|
  .seq (.par [4, 5] (.cons (.b1 .len (.v 2)) (.cons (.lst (.nil)) (.nil)))) <|
  .seq (.forS .rng1 (.cons (.v 4) (.nil)) (.s 6) b_next_way_numbers_l1) <|
  b_next_way_numbers_t4
def f_next_way_numbers : Df := ⟨2, false, 8, b_next_way_numbers⟩
theorem ck_next_way_numbers : chkS tn n_next_way_numbers (defScope s_next_way_numbers) (fun _ => true) b_next_way_numbers (.inr (defBody s_next_way_numbers)) = true := by decide +kernel
def n_way_numbers : List Str := ["weights", "steps", "found", "lap"]
theorem sc_way_numbers : FnScope n_way_numbers ["weights", "steps"] (defScope s_way_numbers) := ⟨rfl, rfl, rfl, by decide +kernel, rfl, by decide +kernel, by decide +kernel⟩
def b_way_numbers_l1 : Stm :=
  .seq (.set 2 (.call 7 none (.cons (.v 0) (.cons (.v 2) (.nil))))) <|
  .skip
def b_way_numbers_t2 : Stm :=
  .seq (.ret (.v 2)) <|
  .skip
def b_way_numbers : Stm :=
  .seq (.set 2 (.op .addT (.tup (.cons (.tup (.cons (.k (.int 1)) (.cons (.k (.int 1)) (.nil)))) (.nil))) (.op .mulT (.tup (.cons (.tup (.cons (.k (.int 0)) (.cons (.k (.int 1)) (.nil)))) (.nil))) (.op .subI (.b1 .len (.idx (.v 0) (.k (.int 0)))) (.k (.int 1)))))) <|
  .seq (.forS .rng1 (.cons (.v 1) (.nil)) (.s 3) b_way_numbers_l1) <|
  b_way_numbers_t2
def f_way_numbers : Df := ⟨2, false, 4, b_way_numbers⟩
theorem ck_way_numbers : chkS tn n_way_numbers (defScope s_way_numbers) (fun _ => true) b_way_numbers (.inr (defBody s_way_numbers)) = true := by decide +kernel
def n_row_of_weights : List Str := ["weights", "found", "line", "lap"]
theorem sc_row_of_weights : FnScope n_row_of_weights ["weights"] (defScope s_row_of_weights) := ⟨rfl, rfl, rfl, by decide +kernel, rfl, by decide +kernel, by decide +kernel⟩
def b_row_of_weights_l1 : Stm :=
  .seq (.app 1 (.idx (.v 2) (.k (.int 0)))) <|
  .seq (.set 2 (.call 7 none (.cons (.v 0) (.cons (.v 2) (.nil))))) <|
  .skip
def b_row_of_weights_t2 : Stm :=
  .seq (.ret (.b1 .tupL (.v 1))) <|
  .skip
def b_row_of_weights : Stm :=
  .seq (.par [1, 2] (.cons (.lst (.nil)) (.cons (.call 8 none (.cons (.v 0) (.cons (.k (.int 0)) (.nil)))) (.nil)))) <|
  .seq (.forS .rng1 (.cons (.op .mulI (.k (.int 2)) (.b1 .len (.idx (.v 0) (.k (.int 0))))) (.nil)) (.s 3) b_row_of_weights_l1) <|
  b_row_of_weights_t2
def f_row_of_weights : Df := ⟨1, false, 4, b_row_of_weights⟩
theorem ck_row_of_weights : chkS tn n_row_of_weights (defScope s_row_of_weights) (fun _ => true) b_row_of_weights (.inr (defBody s_row_of_weights)) = true := by decide +kernel
def n_level_choices : List Str := ["sort", "k"]
theorem sc_level_choices : FnScope n_level_choices ["sort", "k"] (defScope s_level_choices) := ⟨rfl, rfl, rfl, by decide +kernel, rfl, by decide +kernel, by decide +kernel⟩
def b_level_choices : Stm :=
  .seq (.ret (.dget (.dic (.cons (.k (.str "bracket")) (.cons (.k (.int 0)) (.cons (.k (.str "pairing")) (.cons (.k (.int 0)) (.cons (.k (.str "parting")) (.cons (.op .addI (.v 1) (.k (.int 1))) (.cons (.k (.str "row")) (.cons (.op .addI (.op .mulI (.k (.int 2)) (.v 1)) (.k (.int 1))) (.nil)))))))))) (.v 0))) <|
  .skip
def f_level_choices : Df := ⟨2, false, 2, b_level_choices⟩
theorem ck_level_choices : chkS tn n_level_choices (defScope s_level_choices) (fun _ => true) b_level_choices (.inr (defBody s_level_choices)) = true := by decide +kernel
def n_down_choices : List Str := ["sort", "k"]
theorem sc_down_choices : FnScope n_down_choices ["sort", "k"] (defScope s_down_choices) := ⟨rfl, rfl, rfl, by decide +kernel, rfl, by decide +kernel, by decide +kernel⟩
def b_down_choices : Stm :=
  .seq (.ret (.dget (.dic (.cons (.k (.str "bracket")) (.cons (.k (.int 1)) (.cons (.k (.str "pairing")) (.cons (.op .addI (.v 1) (.k (.int 1))) (.cons (.k (.str "parting")) (.cons (.op .addI (.v 1) (.k (.int 1))) (.cons (.k (.str "row")) (.cons (.op .mulI (.op .addI (.v 1) (.k (.int 1))) (.op .addI (.v 1) (.k (.int 1)))) (.nil)))))))))) (.v 0))) <|
  .skip
def f_down_choices : Df := ⟨2, false, 2, b_down_choices⟩
theorem ck_down_choices : chkS tn n_down_choices (defScope s_down_choices) (fun _ => true) b_down_choices (.inr (defBody s_down_choices)) = true := by decide +kernel
def n_step_choices : List Str := ["sort", "here", "late"]
theorem sc_step_choices : FnScope n_step_choices ["sort", "here", "late"] (defScope s_step_choices) := ⟨rfl, rfl, rfl, by decide +kernel, rfl, by decide +kernel, by decide +kernel⟩
def b_step_choices_t1 : Stm :=
  .seq (.ret (.ite (.cmp .eqI (.v 2) (.v 1)) (.call 10 none (.cons (.v 0) (.cons (.v 1) (.nil)))) (.call 11 none (.cons (.v 0) (.cons (.v 2) (.nil)))))) <|
  .skip
def b_step_choices : Stm :=
  .seq (.ifs (.cmp .gtI (.v 2) (.v 1)) (
    .seq (.ret (.k (.int 1))) <|
    .skip) .skip) <|
  b_step_choices_t1
def f_step_choices : Df := ⟨3, false, 3, b_step_choices⟩
theorem ck_step_choices : chkS tn n_step_choices (defScope s_step_choices) (fun _ => true) b_step_choices (.inr (defBody s_step_choices)) = true := by decide +kernel
def n_is_told_way : List Str := ["sort", "value", "way", "choices", "k", "choice"]
theorem sc_is_told_way : FnScope n_is_told_way ["sort", "value"] (defScope s_is_told_way) := ⟨rfl, rfl, rfl, by decide +kernel, rfl, by decide +kernel, by decide +kernel⟩
def b_is_told_way_t4 : Stm :=
  .seq (.ifs (.not (.ch2 .leI .ltI (.k (.int 0)) (.v 5) (.call 12 none (.cons (.v 0) (.cons (.idx (.v 2) (.v 4)) (.cons (.idx (.v 2) (.op .addI (.v 4) (.k (.int 1)))) (.nil))))))) (
    .seq (.ret (.k (.bool false))) <|
    .skip) .skip) <|
  .skip
def b_is_told_way_l3 : Stm :=
  .seq (.ifs (.or (.not (.b1 .isI (.v 5))) (.b1 .isB (.v 5))) (
    .seq (.ret (.k (.bool false))) <|
    .skip) .skip) <|
  b_is_told_way_t4
def b_is_told_way_t5 : Stm :=
  .seq (.ret (.k (.bool true))) <|
  .skip
def b_is_told_way_t2 : Stm :=
  .seq (.forS .enT (.cons (.v 3) (.nil)) (.t (.cons (.s 4) (.cons (.s 5) .nil))) b_is_told_way_l3) <|
  b_is_told_way_t5
def b_is_told_way_t1 : Stm :=
  .seq (.unp (.t (.cons (.s 2) (.cons (.s 3) .nil))) (.v 1)) <|
  .seq (.ifs (.or (.cmp .neI (.idx (.v 2) (.k (.int 0))) (.k (.int 0))) (.or (.cmp .neI (.idx (.v 2) (.neg (.k (.int 1)))) (.k (.int 0))) (.cmp .neI (.b1 .len (.v 3)) (.op .subI (.b1 .len (.v 2)) (.k (.int 1)))))) (
    .seq (.ret (.k (.bool false))) <|
    .skip) .skip) <|
  b_is_told_way_t2
def b_is_told_way : Stm :=
  .seq (.ifs (.or (.not (.b1 .isT (.v 1))) (.or (.cmp .neI (.b1 .len (.v 1)) (.k (.int 2))) (.or (.not (.call 6 none (.cons (.idx (.v 1) (.k (.int 0))) (.nil)))) (.not (.b1 .isT (.idx (.v 1) (.k (.int 1)))))))) (
    .seq (.ret (.k (.bool false))) <|
    .skip) .skip) <|
  b_is_told_way_t1
def f_is_told_way : Df := ⟨2, false, 6, b_is_told_way⟩
theorem ck_is_told_way : chkS tn n_is_told_way (defScope s_is_told_way) (fun _ => true) b_is_told_way (.inr (defBody s_is_told_way)) = true := by decide +kernel
def n_told_ways : List Str := ["sort", "steps", "found", "k", "some", "way", "choices", "here", "late", "one"]
theorem sc_told_ways : FnScope n_told_ways ["sort", "steps"] (defScope s_told_ways) := ⟨rfl, rfl, rfl, by decide +kernel, rfl, by decide +kernel, by decide +kernel⟩
def b_told_ways_l3 : Stm :=
  .seq (.ext 4 (.comp [9] .rng1 (.cons (.call 12 none (.cons (.v 0) (.cons (.v 7) (.cons (.v 8) (.nil))))) (.nil)) (.s 9) (.k (.bool true)) (.tup (.cons (.tup (.star (.v 5) (.cons (.v 8) (.nil)))) (.cons (.tup (.star (.v 6) (.cons (.v 9) (.nil)))) (.nil)))))) <|
  .skip
def b_told_ways_l2 : Stm :=
  .seq (.set 7 (.idx (.v 5) (.neg (.k (.int 1))))) <|
  .seq (.forS .lst (.comp [8] .tup (.tup (.cons (.op .subI (.v 7) (.k (.int 1))) (.cons (.v 7) (.cons (.op .addI (.v 7) (.k (.int 1))) (.nil))))) (.s 8) (.ch2 .leI .ltI (.k (.int 0)) (.v 8) (.op .subI (.v 1) (.v 3))) (.v 8)) (.s 8) b_told_ways_l3) <|
  .skip
def b_told_ways_t4 : Stm :=
  .seq (.set 2 (.v 4)) <|
  .skip
def b_told_ways_l1 : Stm :=
  .seq (.set 4 (.lst (.nil))) <|
  .seq (.forS .lst (.v 2) (.t (.cons (.s 5) (.cons (.s 6) .nil))) b_told_ways_l2) <|
  b_told_ways_t4
def b_told_ways_t5 : Stm :=
  .seq (.ret (.b1 .sortD (.v 2))) <|
  .skip
def b_told_ways : Stm :=
  .seq (.set 2 (.lst (.cons (.tup (.cons (.tup (.cons (.k (.int 0)) (.nil))) (.cons (.tup (.nil)) (.nil)))) (.nil)))) <|
  .seq (.forS .rng1 (.cons (.v 1) (.nil)) (.s 3) b_told_ways_l1) <|
  b_told_ways_t5
def f_told_ways : Df := ⟨2, false, 10, b_told_ways⟩
theorem ck_told_ways : chkS tn n_told_ways (defScope s_told_ways) (fun _ => true) b_told_ways (.inr (defBody s_told_ways)) = true := by decide +kernel
def n_sort_weights : List Str := ["sort", "n", "levels", "k"]
theorem sc_sort_weights : FnScope n_sort_weights ["sort", "n"] (defScope s_sort_weights) := ⟨rfl, rfl, rfl, by decide +kernel, rfl, by decide +kernel, by decide +kernel⟩
def b_sort_weights : Stm :=
  .seq (.set 2 (.b1 .tupL (.comp [3] .rng1 (.cons (.v 1) (.nil)) (.s 3) (.k (.bool true)) (.tup (.cons (.call 10 none (.cons (.v 0) (.cons (.v 3) (.nil)))) (.cons (.k (.int 1)) (.nil))))))) <|
  .seq (.ret (.tup (.cons (.v 2) (.cons (.b1 .tupL (.comp [3] .rng1 (.cons (.op .subI (.v 1) (.k (.int 1))) (.nil)) (.s 3) (.k (.bool true)) (.tup (.cons (.call 11 none (.cons (.v 0) (.cons (.v 3) (.nil)))) (.cons (.k (.int 1)) (.nil)))))) (.nil))))) <|
  .skip
def f_sort_weights : Df := ⟨2, false, 4, b_sort_weights⟩
theorem ck_sort_weights : chkS tn n_sort_weights (defScope s_sort_weights) (fun _ => true) b_sort_weights (.inr (defBody s_sort_weights)) = true := by decide +kernel
def n_told_way_count : List Str := ["sort", "steps", "n"]
theorem sc_told_way_count : FnScope n_told_way_count ["sort", "steps", "n"] (defScope s_told_way_count) := ⟨rfl, rfl, rfl, by decide +kernel, rfl, by decide +kernel, by decide +kernel⟩
def b_told_way_count : Stm :=
  .seq (.ret (.idx (.idx (.call 8 none (.cons (.call 15 none (.cons (.v 0) (.cons (.v 2) (.nil)))) (.cons (.v 1) (.nil)))) (.k (.int 0))) (.k (.int 0)))) <|
  .skip
def f_told_way_count : Df := ⟨3, false, 3, b_told_way_count⟩
theorem ck_told_way_count : chkS tn n_told_way_count (defScope s_told_way_count) (fun _ => true) b_told_way_count (.inr (defBody s_told_way_count)) = true := by decide +kernel
def n__law_of : List Str := ["source", "some"]
theorem sc__law_of : FnScope n__law_of ["source", "some"] (defScope s__law_of) := ⟨rfl, rfl, rfl, by decide +kernel, rfl, by decide +kernel, by decide +kernel⟩
def b__law_of : Stm :=
  .seq (.ret (.idx (.v 1) (.call 17 (some 0) (.cons (.b1 .len (.v 1)) (.nil))))) <|
  .skip
def f__law_of : Df := ⟨2, true, 2, b__law_of⟩
theorem ck__law_of : chkS tn n__law_of (defScope s__law_of) (fun _ => true) b__law_of (.inr (defBody s__law_of)) = true := by decide +kernel
def n__law_is_int : List Str := ["value"]
theorem sc__law_is_int : FnScope n__law_is_int ["value"] (defScope s__law_is_int) := ⟨rfl, rfl, rfl, by decide +kernel, rfl, by decide +kernel, by decide +kernel⟩
def b__law_is_int : Stm :=
  .seq (.ret (.and (.b1 .isI (.v 0)) (.not (.b1 .isB (.v 0))))) <|
  .skip
def f__law_is_int : Df := ⟨1, false, 1, b__law_is_int⟩
theorem ck__law_is_int : chkS tn n__law_is_int (defScope s__law_is_int) (fun _ => true) b__law_is_int (.inr (defBody s__law_is_int)) = true := by decide +kernel
def n__law_choices : List Str := ["sort", "here", "late"]
theorem sc__law_choices : FnScope n__law_choices ["sort", "here", "late"] (defScope s__law_choices) := ⟨rfl, rfl, rfl, by decide +kernel, rfl, by decide +kernel, by decide +kernel⟩
def b__law_choices_t2 : Stm :=
  .seq (.ret (.dget (.dic (.cons (.k (.str "bracket")) (.cons (.k (.int 1)) (.cons (.k (.str "pairing")) (.cons (.v 1) (.cons (.k (.str "parting")) (.cons (.v 1) (.cons (.k (.str "row")) (.cons (.op .mulI (.v 1) (.v 1)) (.nil)))))))))) (.v 0))) <|
  .skip
def b__law_choices_t1 : Stm :=
  .seq (.ifs (.cmp .eqI (.v 2) (.v 1)) (
    .seq (.ret (.dget (.dic (.cons (.k (.str "bracket")) (.cons (.k (.int 0)) (.cons (.k (.str "pairing")) (.cons (.k (.int 0)) (.cons (.k (.str "parting")) (.cons (.op .addI (.v 1) (.k (.int 1))) (.cons (.k (.str "row")) (.cons (.op .addI (.op .mulI (.k (.int 2)) (.v 1)) (.k (.int 1))) (.nil)))))))))) (.v 0))) <|
    .skip) .skip) <|
  b__law_choices_t2
def b__law_choices : Stm :=
  .seq (.ifs (.cmp .gtI (.v 2) (.v 1)) (
    .seq (.ret (.k (.int 1))) <|
    .skip) .skip) <|
  b__law_choices_t1
def f__law_choices : Df := ⟨3, false, 3, b__law_choices⟩
theorem ck__law_choices : chkS tn n__law_choices (defScope s__law_choices) (fun _ => true) b__law_choices (.inr (defBody s__law_choices)) = true := by decide +kernel
def n__law_ways : List Str := ["steps", "found", "k", "late", "way", "h"]
theorem sc__law_ways : FnScope n__law_ways ["steps"] (defScope s__law_ways) := ⟨rfl, rfl, rfl, by decide +kernel, rfl, by decide +kernel, by decide +kernel⟩
def b__law_ways_l2 : Stm :=
  .seq (.set 3 (.op .addL (.v 3) (.comp [5] .tup (.tup (.cons (.op .subI (.idx (.v 4) (.neg (.k (.int 1)))) (.k (.int 1))) (.cons (.idx (.v 4) (.neg (.k (.int 1)))) (.cons (.op .addI (.idx (.v 4) (.neg (.k (.int 1)))) (.k (.int 1))) (.nil))))) (.s 5) (.ch2 .leI .ltI (.k (.int 0)) (.v 5) (.op .subI (.v 0) (.v 2))) (.op .addT (.v 4) (.tup (.cons (.v 5) (.nil))))))) <|
  .skip
def b__law_ways_t3 : Stm :=
  .seq (.set 1 (.v 3)) <|
  .skip
def b__law_ways_l1 : Stm :=
  .seq (.set 3 (.lst (.nil))) <|
  .seq (.forS .lst (.v 1) (.s 4) b__law_ways_l2) <|
  b__law_ways_t3
def b__law_ways_t4 : Stm :=
  .seq (.ret (.b1 .sortD (.v 1))) <|
  .skip
def b__law_ways : Stm :=
  .seq (.set 1 (.lst (.cons (.tup (.cons (.k (.int 0)) (.nil))) (.nil)))) <|
  .seq (.forS .rng1 (.cons (.v 0) (.nil)) (.s 2) b__law_ways_l1) <|
  b__law_ways_t4
def f__law_ways : Df := ⟨1, false, 6, b__law_ways⟩
theorem ck__law_ways : chkS tn n__law_ways (defScope s__law_ways) (fun _ => true) b__law_ways (.inr (defBody s__law_ways)) = true := by decide +kernel
def n__law_told_ways : List Str := ["sort", "steps", "found", "way", "some", "k", "late", "choices", "one"]
theorem sc__law_told_ways : FnScope n__law_told_ways ["sort", "steps"] (defScope s__law_told_ways) := ⟨rfl, rfl, rfl, by decide +kernel, rfl, by decide +kernel, by decide +kernel⟩
def b__law_told_ways_l3 : Stm :=
  .seq (.set 6 (.op .addL (.v 6) (.comp [8] .rng1 (.cons (.call 20 none (.cons (.v 0) (.cons (.idx (.v 3) (.v 5)) (.cons (.idx (.v 3) (.op .addI (.v 5) (.k (.int 1)))) (.nil))))) (.nil)) (.s 8) (.k (.bool true)) (.op .addT (.v 7) (.tup (.cons (.v 8) (.nil))))))) <|
  .skip
def b__law_told_ways_t4 : Stm :=
  .seq (.set 4 (.v 6)) <|
  .skip
def b__law_told_ways_l2 : Stm :=
  .seq (.set 6 (.lst (.nil))) <|
  .seq (.forS .lst (.v 4) (.s 7) b__law_told_ways_l3) <|
  b__law_told_ways_t4
def b__law_told_ways_t5 : Stm :=
  .seq (.set 2 (.op .addL (.v 2) (.comp [7] .lst (.v 4) (.s 7) (.k (.bool true)) (.tup (.cons (.v 3) (.cons (.v 7) (.nil))))))) <|
  .skip
def b__law_told_ways_l1 : Stm :=
  .seq (.set 4 (.lst (.cons (.tup (.nil)) (.nil)))) <|
  .seq (.forS .rng1 (.cons (.v 1) (.nil)) (.s 5) b__law_told_ways_l2) <|
  b__law_told_ways_t5
def b__law_told_ways_t6 : Stm :=
  .seq (.ret (.b1 .sortD (.v 2))) <|
  .skip
def b__law_told_ways : Stm :=
  .seq (.set 2 (.lst (.nil))) <|
  .seq (.forS .lst (.call 21 none (.cons (.v 1) (.nil))) (.s 3) b__law_told_ways_l1) <|
  b__law_told_ways_t6
def f__law_told_ways : Df := ⟨2, false, 9, b__law_told_ways⟩
theorem ck__law_told_ways : chkS tn n__law_told_ways (defScope s__law_told_ways) (fun _ => true) b__law_told_ways (.inr (defBody s__law_told_ways)) = true := by decide +kernel
def n__law_is_told : List Str := ["sort", "value", "way", "choices", "x", "k", "one"]
theorem sc__law_is_told : FnScope n__law_is_told ["sort", "value"] (defScope s__law_is_told) := ⟨rfl, rfl, rfl, by decide +kernel, rfl, by decide +kernel, by decide +kernel⟩
def b__law_is_told_l4 : Stm :=
  .seq (.ifs (.or (.cmp .gtI (.b1 .abs (.op .subI (.idx (.v 2) (.op .addI (.v 5) (.k (.int 1)))) (.idx (.v 2) (.v 5)))) (.k (.int 1))) (.cmp .geI (.v 6) (.call 20 none (.cons (.v 0) (.cons (.idx (.v 2) (.v 5)) (.cons (.idx (.v 2) (.op .addI (.v 5) (.k (.int 1)))) (.nil))))))) (
    .seq (.ret (.k (.bool false))) <|
    .skip) .skip) <|
  .skip
def b__law_is_told_t5 : Stm :=
  .seq (.ret (.k (.bool true))) <|
  .skip
def b__law_is_told_t3 : Stm :=
  .seq (.forS .enT (.cons (.v 3) (.nil)) (.t (.cons (.s 5) (.cons (.s 6) .nil))) b__law_is_told_l4) <|
  b__law_is_told_t5
def b__law_is_told_t2 : Stm :=
  .seq (.ifs (.or (.cmp .ne (.comp [4] .tup (.op .addT (.v 2) (.v 3)) (.s 4) (.or (.not (.call 19 none (.cons (.v 4) (.nil)))) (.cmp .ltI (.v 4) (.k (.int 0)))) (.v 4)) (.lst (.nil))) (.or (.cmp .neI (.idx (.v 2) (.k (.int 0))) (.k (.int 0))) (.cmp .neI (.idx (.v 2) (.neg (.k (.int 1)))) (.k (.int 0))))) (
    .seq (.ret (.k (.bool false))) <|
    .skip) .skip) <|
  b__law_is_told_t3
def b__law_is_told_t1 : Stm :=
  .seq (.unp (.t (.cons (.s 2) (.cons (.s 3) .nil))) (.v 1)) <|
  .seq (.ifs (.or (.not (.b1 .isT (.v 2))) (.or (.not (.b1 .isT (.v 3))) (.cmp .neI (.b1 .len (.v 2)) (.op .addI (.b1 .len (.v 3)) (.k (.int 1)))))) (
    .seq (.ret (.k (.bool false))) <|
    .skip) .skip) <|
  b__law_is_told_t2
def b__law_is_told : Stm :=
  .seq (.ifs (.or (.not (.b1 .isT (.v 1))) (.cmp .neI (.b1 .len (.v 1)) (.k (.int 2)))) (
    .seq (.ret (.k (.bool false))) <|
    .skip) .skip) <|
  b__law_is_told_t1
def f__law_is_told : Df := ⟨2, false, 7, b__law_is_told⟩
theorem ck__law_is_told : chkS tn n__law_is_told (defScope s__law_is_told) (fun _ => true) b__law_is_told (.inr (defBody s__law_is_told)) = true := by decide +kernel
def n__law_numbers : List Str := ["levels", "downs", "steps", "n", "line", "lap", "late", "k", "number"]
theorem sc__law_numbers : FnScope n__law_numbers ["levels", "downs", "steps"] (defScope s__law_numbers) := ⟨rfl, rfl, rfl, by decide +kernel, rfl, by decide +kernel, by decide +kernel⟩
def b__law_numbers_l2 : Stm :=
  .seq (.set 8 (.op .addI (.op .mulI (.idx (.v 0) (.v 7)) (.idx (.v 4) (.v 7))) (.ite (.cmp .gtI (.v 7) (.k (.int 0))) (.idx (.v 4) (.op .subI (.v 7) (.k (.int 1)))) (.k (.int 0))))) <|
  .seq (.app 6 (.op .addI (.v 8) (.ite (.cmp .ltI (.op .addI (.v 7) (.k (.int 1))) (.v 3)) (.op .mulI (.idx (.v 1) (.v 7)) (.idx (.v 4) (.op .addI (.v 7) (.k (.int 1))))) (.k (.int 0))))) <|
  .skip
def b__law_numbers_t3 : Stm :=
  .seq (.set 4 (.v 6)) <|
  .skip
def b__law_numbers_l1 : Stm :=
  .seq (.set 6 (.lst (.nil))) <|
  .seq (.forS .rng1 (.cons (.v 3) (.nil)) (.s 7) b__law_numbers_l2) <|
  b__law_numbers_t3
def b__law_numbers_t4 : Stm :=
  .seq (.ret (.idx (.v 4) (.k (.int 0)))) <|
  .skip
def b__law_numbers : Stm :=
  .seq (.par [3, 4] (.cons (.b1 .len (.v 0)) (.cons (.op .addL (.lst (.cons (.k (.int 1)) (.nil))) (.op .mulL (.lst (.cons (.k (.int 0)) (.nil))) (.op .subI (.b1 .len (.v 0)) (.k (.int 1))))) (.nil)))) <|
  .seq (.forS .rng1 (.cons (.v 2) (.nil)) (.s 5) b__law_numbers_l1) <|
  b__law_numbers_t4
def f__law_numbers : Df := ⟨3, false, 9, b__law_numbers⟩
theorem ck__law_numbers : chkS tn n__law_numbers (defScope s__law_numbers) (fun _ => true) b__law_numbers (.inr (defBody s__law_numbers)) = true := by decide +kernel
def n__law_bent : List Str := ["source", "value", "odd", "some", "k"]
theorem sc__law_bent : FnScope n__law_bent ["source", "value", "odd"] (defScope s__law_bent) := ⟨rfl, rfl, rfl, by decide +kernel, rfl, by decide +kernel, by decide +kernel⟩
def b__law_bent_t1 : Stm :=
  .seq (.ret (.call 18 (some 0) (.cons (.v 3) (.nil)))) <|
  .skip
def b__law_bent_t3 : Stm :=
  .seq (.ret (.op .addT (.op .addT (.slc false true (.v 1) (.nil) (.v 4)) (.tup (.cons (.call 25 (some 0) (.cons (.idx (.v 1) (.v 4)) (.cons (.v 2) (.nil)))) (.nil)))) (.slc true false (.v 1) (.op .addI (.v 4) (.k (.int 1))) (.nil)))) <|
  .skip
def b__law_bent_t2 : Stm :=
  .seq (.set 4 (.call 17 (some 0) (.cons (.b1 .len (.v 1)) (.nil)))) <|
  .seq (.ifs (.and (.call 19 none (.cons (.idx (.v 1) (.v 4)) (.nil))) (.cmp .gtI (.call 17 (some 0) (.cons (.k (.int 3)) (.nil))) (.k (.int 0)))) (
    .seq (.ret (.op .addT (.op .addT (.slc false true (.v 1) (.nil) (.v 4)) (.tup (.cons (.op .addI (.idx (.v 1) (.v 4)) (.call 18 (some 0) (.cons (.lst (.cons (.k (.int 1)) (.cons (.neg (.k (.int 1))) (.cons (.k (.int 2)) (.nil))))) (.nil)))) (.nil)))) (.slc true false (.v 1) (.op .addI (.v 4) (.k (.int 1))) (.nil)))) <|
    .skip) .skip) <|
  b__law_bent_t3
def b__law_bent : Stm :=
  .seq (.ifs (.or (.not (.b1 .isT (.v 1))) (.or (.cmp .eq (.v 1) (.tup (.nil))) (.cmp .eqI (.call 17 (some 0) (.cons (.k (.int 5)) (.nil))) (.k (.int 0))))) (
    .seq (.set 3 (.b1 .lstQ (.v 2))) <|
    .seq (.ifs (.b1 .isT (.v 1)) (
      .seq (.set 3 (.op .addL (.v 3) (.lst (.cons (.slc true false (.v 1) (.k (.int 1)) (.nil)) (.cons (.slc false true (.v 1) (.nil) (.neg (.k (.int 1)))) (.cons (.op .addT (.v 1) (.slc false true (.v 1) (.nil) (.k (.int 1)))) (.cons (.b1 .lstQ (.v 1)) (.cons (.slcT false (-1) (.v 1) (.nil)) (.nil))))))))) <|
      .skip) .skip) <|
    b__law_bent_t1) .skip) <|
  b__law_bent_t2
def f__law_bent : Df := ⟨3, true, 5, b__law_bent⟩
theorem ck__law_bent : chkS tn n__law_bent (defScope s__law_bent) (fun _ => true) b__law_bent (.inr (defBody s__law_bent)) = true := by decide +kernel
def n_law : List Str := ["script", "source", "odd", "sort", "steps", "every", "k", "due", "n", "far", "levels", "h", "downs", "x", "weights", "many", "low", "way", "drawn", "turn", "values", "told", "value", "shown"]
theorem sc_law : FnScope n_law ["script"] (defScope s_law) := ⟨rfl, rfl, rfl, by decide +kernel, rfl, by decide +kernel, by decide +kernel⟩
def b_law_l10 : Stm :=
  .seq (.set 23 (.b1 .repr (.v 22))) <|
  .seq (.ifs (.or (.cmp .neS (.b1 .repr (.call 13 none (.cons (.v 3) (.cons (.v 22) (.nil))))) (.b1 .repr (.call 23 none (.cons (.v 3) (.cons (.v 22) (.nil)))))) (.cmp .neS (.b1 .repr (.v 22)) (.v 23))) .nev .skip) <|
  .skip
def b_law_t9 : Stm :=
  .seq (.forS .lst (.v 20) (.s 22) b_law_l10) <|
  .skip
def b_law_t8 : Stm :=
  .seq (.set 18 (.b1 .tupL (.comp [19] .rng1 (.cons (.v 4) (.nil)) (.s 19) (.k (.bool true)) (.call 17 (some 1) (.cons (.k (.int 3)) (.nil)))))) <|
  .seq (.set 18 (.tup (.cons (.op .addT (.tup (.cons (.k (.int 0)) (.nil))) (.v 18)) (.cons (.b1 .tupL (.comp [19] .rng1 (.cons (.v 4) (.nil)) (.s 19) (.k (.bool true)) (.call 17 (some 1) (.cons (.k (.int 3)) (.nil))))) (.nil))))) <|
  .seq (.set 20 (.lst (.cons (.v 18) (.cons (.k .none) (.cons (.tup (.nil)) (.cons (.b1 .lstQ (.v 18)) (.cons (.slc false true (.v 18) (.nil) (.k (.int 1))) (.cons (.tup (.cons (.tup (.cons (.k (.int 0)) (.nil))) (.cons (.tup (.nil)) (.nil)))) (.cons (.tup (.cons (.tup (.nil)) (.cons (.tup (.nil)) (.nil)))) (.nil)))))))))) <|
  .seq (.ifs (.cmp .ne (.v 5) (.lst (.nil))) (
    .seq (.set 21 (.call 18 (some 1) (.cons (.v 5) (.nil)))) <|
    .seq (.set 20 (.op .addL (.v 20) (.lst (.cons (.v 21) (.cons (.b1 .lstQ (.v 21)) (.cons (.tup (.cons (.b1 .lstQ (.idx (.v 21) (.k (.int 0)))) (.cons (.idx (.v 21) (.k (.int 1))) (.nil)))) (.cons (.op .addT (.v 21) (.tup (.cons (.tup (.nil)) (.nil)))) (.nil)))))))) <|
    .seq (.set 20 (.op .addL (.v 20) (.comp [19] .rng1 (.cons (.k (.int 8)) (.nil)) (.s 19) (.k (.bool true)) (.call 25 (some 1) (.cons (.v 21) (.cons (.v 2) (.nil))))))) <|
    .skip) .skip) <|
  b_law_t9
def b_law_t7 : Stm :=
  .seq (.set 16 (.comp [17] .lst (.v 5) (.s 17) (.cmp .ltI (.b1 .maxT (.idx (.v 17) (.k (.int 0)))) (.v 8)) (.v 17))) <|
  .seq (.ifs (.cmp .neI (.call 16 none (.cons (.v 3) (.cons (.v 4) (.cons (.v 8) (.nil))))) (.b1 .len (.v 16))) .nev .skip) <|
  b_law_t8
def b_law_t6 : Stm :=
  .seq (.ifs (.and (.cmp .ltI (.v 8) (.k (.int 7))) (.and (.cmp .ltI (.v 9) (.op .mulI (.k (.int 2)) (.v 8))) (.cmp .ne (.idx (.call 9 none (.cons (.v 14) (.nil))) (.v 9)) (.tup (.cons (.v 15) (.cons (.k (.int 1)) (.nil))))))) .nev .skip) <|
  b_law_t7
def b_law_t5 : Stm :=
  .seq (.ifs (.and (.cmp .ltI (.v 8) (.k (.int 7))) (.and (.cmp .ltI (.v 9) (.k (.int 12))) (.cmp .ne (.idx (.call 8 none (.cons (.v 14) (.cons (.v 9) (.nil)))) (.k (.int 0))) (.tup (.cons (.v 15) (.cons (.k (.int 1)) (.nil))))))) .nev .skip) <|
  b_law_t6
def b_law_t4 : Stm :=
  .seq (.set 15 (.call 24 none (.cons (.v 10) (.cons (.v 12) (.cons (.v 9) (.nil)))))) <|
  .seq (.ifs (.cmp .neS (.b1 .repr (.call 16 none (.cons (.v 3) (.cons (.v 9) (.cons (.v 8) (.nil)))))) (.b1 .repr (.v 15))) .nev .skip) <|
  b_law_t5
def b_law_t3 : Stm :=
  .seq (.unp (.t (.cons (.s 8) (.cons (.s 9) .nil))) (.tup (.cons (.op .addI (.k (.int 1)) (.call 17 (some 1) (.cons (.k (.int 8)) (.nil)))) (.cons (.call 17 (some 1) (.cons (.k (.int 15)) (.nil))) (.nil))))) <|
  .seq (.set 10 (.comp [11] .rng1 (.cons (.v 8) (.nil)) (.s 11) (.k (.bool true)) (.call 20 none (.cons (.v 3) (.cons (.v 11) (.cons (.v 11) (.nil))))))) <|
  .seq (.set 12 (.comp [11] .rng1 (.cons (.op .subI (.v 8) (.k (.int 1))) (.nil)) (.s 11) (.k (.bool true)) (.call 20 none (.cons (.v 3) (.cons (.op .addI (.v 11) (.k (.int 1))) (.cons (.v 11) (.nil))))))) <|
  .seq (.set 7 (.tup (.cons (.b1 .tupL (.comp [13] .lst (.v 10) (.s 13) (.k (.bool true)) (.tup (.cons (.v 13) (.cons (.k (.int 1)) (.nil)))))) (.cons (.b1 .tupL (.comp [13] .lst (.v 12) (.s 13) (.k (.bool true)) (.tup (.cons (.v 13) (.cons (.k (.int 1)) (.nil)))))) (.nil))))) <|
  .seq (.set 14 (.call 15 none (.cons (.v 3) (.cons (.v 8) (.nil))))) <|
  .seq (.ifs (.or (.cmp .neS (.b1 .repr (.v 14)) (.b1 .repr (.v 7))) (.notB true (.call 5 none (.cons (.v 14) (.nil))))) .nev .skip) <|
  b_law_t4
def b_law_t2 : Stm :=
  .seq (.set 6 (.call 17 (some 1) (.cons (.k (.int 21)) (.nil)))) <|
  .seq (.set 7 (.lst (.cons (.call 20 none (.cons (.v 3) (.cons (.v 6) (.cons (.v 6) (.nil))))) (.cons (.call 20 none (.cons (.v 3) (.cons (.op .addI (.v 6) (.k (.int 1))) (.cons (.v 6) (.nil))))) (.nil))))) <|
  .seq (.ifs (.cmp .neS (.b1 .repr (.lst (.cons (.call 10 none (.cons (.v 3) (.cons (.v 6) (.nil)))) (.cons (.call 11 none (.cons (.v 3) (.cons (.v 6) (.nil)))) (.nil))))) (.b1 .repr (.v 7))) .nev .skip) <|
  b_law_t3
def b_law_l1 : Stm :=
  .seq (.set 4 (.ite (.cmp .inQ (.v 3) (.tup (.cons (.k (.str "parting")) (.cons (.k (.str "row")) (.nil))))) (.call 17 (some 1) (.cons (.k (.int 7)) (.nil))) (.call 17 (some 1) (.cons (.k (.int 9)) (.nil))))) <|
  .seq (.set 5 (.call 22 none (.cons (.v 3) (.cons (.v 4) (.nil))))) <|
  .seq (.ifs (.cmp .neS (.b1 .repr (.call 14 none (.cons (.v 3) (.cons (.v 4) (.nil))))) (.b1 .repr (.v 5))) .nev .skip) <|
  b_law_t2
def b_law_t11 : Stm :=
  .seq (.ret (.and (.cmp .eqI (.call 16 none (.cons (.k (.str "pairing")) (.cons (.k (.int 8)) (.cons (.k (.int 2)) (.nil))))) (.k (.int 1))) (.cmp .eqI (.call 16 none (.cons (.k (.str "row")) (.cons (.k (.int 5)) (.cons (.k (.int 4)) (.nil))))) (.k (.int 120))))) <|
  .skip
def b_law : Stm :=
  .seq (.set 2 (.lst (.cons (.k .none) (.cons (.k (.bool true)) (.cons (.neg (.k (.int 1))) (.cons (.k (.str "0")) (.cons (.tup (.nil)) (.cons (.tup (.cons (.k (.int 0)) (.nil))) (.cons (.lst (.cons (.k (.int 0)) (.nil))) (.cons (.k (.int 9)) (.cons (.tup (.cons (.k (.int 0)) (.cons (.k (.int 0)) (.nil)))) (.nil)))))))))))) <|
  .seq (.forS .tup (.tup (.cons (.k (.str "bracket")) (.cons (.k (.str "pairing")) (.cons (.k (.str "parting")) (.cons (.k (.str "row")) (.nil)))))) (.s 3) b_law_l1) <|
  b_law_t11
theorem ck_law : chkS tn n_law (defScope s_law) (fun _ => true) b_law (.inr ((defBody s_law).drop 1)) = true := by decide +kernel
def tbl : List Tb := [.df f_lowest, .df f_is_fraction, .df f_fraction_sum, .df f_fraction_times, .df f_is_fraction_tuple, .df f_is_weights, .df f_is_level_way, .df f_next_way_numbers, .df f_way_numbers, .df f_row_of_weights, .df f_level_choices, .df f_down_choices, .df f_step_choices, .df f_is_told_way, .df f_told_ways, .df f_sort_weights, .df f_told_way_count, .fn pickF, .df f__law_of, .df f__law_is_int, .df f__law_choices, .df f__law_ways, .df f__law_told_ways, .df f__law_is_told, .df f__law_numbers, .df f__law_bent]
end Ev
/-! Head57: the top. -/
namespace Ev
open PySem PySem.Spec PyProof.Rows L2
def fnD : List He.DefD := [d_lowest, d_is_fraction, d_fraction_sum, d_fraction_times, d_is_fraction_tuple, d_is_weights, d_is_level_way, d_next_way_numbers, d_way_numbers, d_row_of_weights, d_level_choices, d_down_choices, d_step_choices, d_is_told_way, d_told_ways, d_sort_weights, d_told_way_count, d__law_source, d__law_pick, d__law_of, d__law_is_int, d__law_choices, d__law_ways, d__law_told_ways, d__law_is_told, d__law_numbers, d__law_bent, d_law]
def faD : List He.Fa := [.glo "lowest", .glo "is_fraction", .glo "fraction_sum", .glo "fraction_times", .glo "is_fraction_tuple", .glo "is_weights", .glo "is_level_way", .glo "next_way_numbers", .glo "way_numbers", .glo "row_of_weights", .glo "level_choices", .glo "down_choices", .glo "step_choices", .glo "is_told_way", .glo "told_ways", .glo "sort_weights", .glo "told_way_count", .glo "_law_source", .glo "_law_pick", .glo "_law_of", .glo "_law_is_int", .glo "_law_choices", .glo "_law_ways", .glo "_law_told_ways", .glo "_law_is_told", .glo "_law_numbers", .glo "_law_bent", .glo "law", .free "len", .free "tuple", .free "list", .free "int", .free "abs", .free "repr", .free "all", .free "sum", .free "max", .free "min", .free "isinstance", .free "sorted", .free "range", .free "str", .free "bool", .free "enumerate", .free "zip"]
abbrev rowR : PySem.W.OpenRow := PySem.W.OpenLaw.row PySem.Challenge.rw_momentpaths_k57_whole_told_ways_of_sorts
abbrev hkR : PySem.W.Hook := He.hookD 4 faD fnD
def obR (s : PySem.W.SharedT) : He.AlD := He.obsDG 4 faD fnD (HandSHeadRun.getT s)
theorem obR_eq (s : PySem.W.SharedT) : obR s = hkR.obs s.abs := He.obsDG_eq (HandSHeadRun.getT_eq s)
def looseR : List Str := ["lowest", "is_fraction", "fraction_sum", "fraction_times", "is_fraction_tuple", "is_weights", "is_level_way", "next_way_numbers", "way_numbers", "row_of_weights", "level_choices", "down_choices", "step_choices", "is_told_way", "told_ways", "sort_weights", "told_way_count", "_law_source", "_law_pick", "_law_of", "_law_is_int", "_law_choices", "_law_ways", "_law_told_ways", "_law_is_told", "_law_numbers", "_law_bent"]
theorem runR (w : World) : HandSHeadRun.RunEqI rowR (PySem.W.view rowR.prog [0, 32]) hkR obR 40000 looseR w := by
  unfold HandSHeadRun.RunEqI
  kernel_rfl
end Ev
/-! Dat57: what the defs do (printed by gen/dat.py from lib). -/
namespace Ev
open PySem L2
local macro_rules | `(tactic| trivial) => `(tactic| ((try simp only [run, frame, List.map, List.replicate, Nat.reduceAdd, Nat.reduceSub, List.length_cons, List.length_nil, Bool.false_eq_true, if_false, if_true, List.nil_append, List.cons_append, true_and]); simp only [↓it_tF, ↓bd_fr, ↓idx_fr0, ↓idx_fr1, ↓i_tF, ↓i_lF, ↓u_ltF, ↓u_llF, ↓at2_0, ↓at2_1, fr0, fr1, ↓w_k, ↓w_vf0, ↓w_vf1, ↓w_vf2, ↓w_vf3, ↓w_vf4, ↓w_vf5, ↓w_vf6, ↓w_vf7, ↓w_vf8, ↓w_vf9, ↓w_vf10, ↓w_vf11, ↓w_vf12, ↓w_vf13, ↓w_vf14, ↓w_vf15, ↓w_vf16, ↓w_vf17, ↓w_vf18, ↓w_vf19, ↓w_vf20, ↓w_vf21, ↓w_vf22, ↓w_vf23, ↓w_vo0, ↓w_vo1, ↓w_vo2, ↓w_vo3, ↓w_vo4, ↓w_vo5, ↓w_vo6, ↓w_vo7, ↓w_vo8, ↓w_vo9, ↓w_vo10, ↓w_vo11, ↓w_vo12, ↓w_vo13, ↓w_vo14, ↓w_vo15, ↓w_vo16, ↓w_vo17, ↓w_vo18, ↓w_vo19, ↓w_vo20, ↓w_vo21, ↓w_vo22, ↓w_vo23, ↓w_mf0, ↓w_mf1, ↓w_mf2, ↓w_mf3, ↓w_mf4, ↓w_mf5, ↓w_mf6, ↓w_mf7, ↓w_mf8, ↓w_mf9, ↓w_mf10, ↓w_mf11, ↓w_mf12, ↓w_mf13, ↓w_mf14, ↓w_mf15, ↓w_mf16, ↓w_mf17, ↓w_mf18, ↓w_mf19, ↓w_mf20, ↓w_mf21, ↓w_mf22, ↓w_mf23, ↓w_mo0, ↓w_mo1, ↓w_mo2, ↓w_mo3, ↓w_mo4, ↓w_mo5, ↓w_mo6, ↓w_mo7, ↓w_mo8, ↓w_mo9, ↓w_mo10, ↓w_mo11, ↓w_mo12, ↓w_mo13, ↓w_mo14, ↓w_mo15, ↓w_mo16, ↓w_mo17, ↓w_mo18, ↓w_mo19, ↓w_mo20, ↓w_mo21, ↓w_mo22, ↓w_mo23, ↓w_op, ↓w_neg, ↓w_cmp, ↓w_ch2, ↓w_isN, ↓w_notN, ↓w_isB, ↓w_notB, ↓w_and, ↓w_or, ↓w_not, ↓w_ite, ↓w_nil, ↓w_cons, ↓w_star, ↓w_tup, ↓w_lst, ↓w_idx, ↓w_slc, ↓w_revL, ↓w_b1, ↓w_b2max2, ↓w_b2min2, ↓w_b2gcd, ↓w_b2indexL, ↓w_b2indexT, ↓w_dic, ↓w_dget, ↓w_dgetd, ↓w_dIn, ↓w_slcT, ↓w_lrngT, ↓w_lrngF, ↓w_pop0, ↓w_pop1, ↓w_call, ↓w_comp, ↓s_skip, ↓s_seq, ↓s_set, ↓s_unp, ↓s_par, ↓p_nil, ↓p_cons, ↓h_fz, ↓h_fr, ↓h_bw, ↓pe_nil, ↓pe_cons, ↓sl_fz, ↓sl_fr, ↓put0, ↓put1, ↓put2, ↓put3, ↓put4, ↓put5, ↓put6, ↓put7, ↓put8, ↓put9, ↓put10, ↓put11, ↓put12, ↓put13, ↓put14, ↓put15, ↓put16, ↓put17, ↓put18, ↓put19, ↓put20, ↓put21, ↓put22, ↓put23, ↓s_app, ↓s_ext, ↓s_popS, ↓s_sto, ↓s_sto2, ↓s_ifs, ↓s_for, ↓s_whl, ↓s_ret, ↓s_brk, ↓s_nev, ↓r_fz, ↓r_fr, ↓r_bo0, ↓r_bo1, ↓r_bo2, ↓r_bo3, ↓r_bo4, ↓r_bo5, ↓r_bo6, ↓r_bo7, ↓r_bo8, ↓r_bo9, ↓r_bo10, ↓r_bo11, ↓r_bo12, ↓r_bo13, ↓r_bo14, ↓r_bo15, ↓r_bo16, ↓r_bo17, ↓r_bo18, ↓r_bo19, ↓r_bo20, ↓r_bo21, ↓r_bo22, ↓r_bo23, ↓r_bf0, ↓r_bf1, ↓r_bf2, ↓r_bf3, ↓r_bf4, ↓r_bf5, ↓r_bf6, ↓r_bf7, ↓r_bf8, ↓r_bf9, ↓r_bf10, ↓r_bf11, ↓r_bf12, ↓r_bf13, ↓r_bf14, ↓r_bf15, ↓r_bf16, ↓r_bf17, ↓r_bf18, ↓r_bf19, ↓r_bf20, ↓r_bf21, ↓r_bf22, ↓r_bf23, ↓g_fz, ↓g_fr, ↓g_bo0, ↓g_bo1, ↓g_bo2, ↓g_bo3, ↓g_bo4, ↓g_bo5, ↓g_bo6, ↓g_bo7, ↓g_bo8, ↓g_bo9, ↓g_bo10, ↓g_bo11, ↓g_bo12, ↓g_bo13, ↓g_bo14, ↓g_bo15, ↓g_bo16, ↓g_bo17, ↓g_bo18, ↓g_bo19, ↓g_bo20, ↓g_bo21, ↓g_bo22, ↓g_bo23, ↓g_bf0, ↓g_bf1, ↓g_bf2, ↓g_bf3, ↓g_bf4, ↓g_bf5, ↓g_bf6, ↓g_bf7, ↓g_bf8, ↓g_bf9, ↓g_bf10, ↓g_bf11, ↓g_bf12, ↓g_bf13, ↓g_bf14, ↓g_bf15, ↓g_bf16, ↓g_bf17, ↓g_bf18, ↓g_bf19, ↓g_bf20, ↓g_bf21, ↓g_bf22, ↓g_bf23, ↓o_fz, ↓o_fr, ↓o_bo0, ↓o_bo1, ↓o_bo2, ↓o_bo3, ↓o_bo4, ↓o_bo5, ↓o_bo6, ↓o_bo7, ↓o_bo8, ↓o_bo9, ↓o_bo10, ↓o_bo11, ↓o_bo12, ↓o_bo13, ↓o_bo14, ↓o_bo15, ↓o_bo16, ↓o_bo17, ↓o_bo18, ↓o_bo19, ↓o_bo20, ↓o_bo21, ↓o_bo22, ↓o_bo23, ↓o_bf0, ↓o_bf1, ↓o_bf2, ↓o_bf3, ↓o_bf4, ↓o_bf5, ↓o_bf6, ↓o_bf7, ↓o_bf8, ↓o_bf9, ↓o_bf10, ↓o_bf11, ↓o_bf12, ↓o_bf13, ↓o_bf14, ↓o_bf15, ↓o_bf16, ↓o_bf17, ↓o_bf18, ↓o_bf19, ↓o_bf20, ↓o_bf21, ↓o_bf22, ↓o_bf23, ↓st_f0, ↓st_f1, ↓st_f2, ↓st_f3, ↓st_f4, ↓st_f5, ↓st_f6, ↓st_f7, ↓st_f8, ↓st_f9, ↓st_f10, ↓st_f11, ↓st_f12, ↓st_f13, ↓st_f14, ↓st_f15, ↓st_f16, ↓st_f17, ↓st_f18, ↓st_f19, ↓st_f20, ↓st_f21, ↓st_f22, ↓st_f23, ↓st_o0, ↓st_o1, ↓st_o2, ↓st_o3, ↓st_o4, ↓st_o5, ↓st_o6, ↓st_o7, ↓st_o8, ↓st_o9, ↓st_o10, ↓st_o11, ↓st_o12, ↓st_o13, ↓st_o14, ↓st_o15, ↓st_o16, ↓st_o17, ↓st_o18, ↓st_o19, ↓st_o20, ↓st_o21, ↓st_o22, ↓st_o23, ↓sb0, ↓sb1, ↓sb2, ↓sb3, ↓sb4, ↓sb5, ↓sb6, ↓sb7, ↓sb8, ↓sb9, ↓sb10, ↓sb11, ↓sb12, ↓sb13, ↓sb14, ↓sb15, ↓sb16, ↓sb17, ↓sb18, ↓sb19, ↓sb20, ↓sb21, ↓sb22, ↓sb23, ↓bd0, ↓bd1, ↓bd2, ↓bd3, ↓bd4, ↓bd5, ↓bd6, ↓bd7, ↓bd8, ↓bd9, ↓bd10, ↓bd11, ↓bd12, ↓bd13, ↓bd14, ↓bd15, ↓bd16, ↓bd17, ↓bd18, ↓bd19, ↓bd20, ↓bd21, ↓bd22, ↓bd23, ↓bd_cons, ↓bd_nil, ↓bd_t, ↓ow0, ↓ow1, ↓ow2, ↓ow3, ↓ow4, ↓ow5, ↓ow6, ↓ow7, ↓ow8, ↓ow9, ↓ow10, ↓ow11, ↓ow12, ↓ow13, ↓ow14, ↓ow15, ↓ow16, ↓ow17, ↓ow18, ↓ow19, ↓ow20, ↓ow21, ↓ow22, ↓ow23, ↓ap0, ↓ap1, ↓ap2, ↓ap3, ↓ap4, ↓ap5, ↓ap6, ↓ap7, ↓ap8, ↓ap9, ↓ap10, ↓ap11, ↓ap12, ↓ap13, ↓ap14, ↓ap15, ↓ap16, ↓ap17, ↓ap18, ↓ap19, ↓ap20, ↓ap21, ↓ap22, ↓ap23, ↓ex0, ↓ex1, ↓ex2, ↓ex3, ↓ex4, ↓ex5, ↓ex6, ↓ex7, ↓ex8, ↓ex9, ↓ex10, ↓ex11, ↓ex12, ↓ex13, ↓ex14, ↓ex15, ↓ex16, ↓ex17, ↓ex18, ↓ex19, ↓ex20, ↓ex21, ↓ex22, ↓ex23, ↓exT0, ↓exT1, ↓exT2, ↓exT3, ↓exT4, ↓exT5, ↓exT6, ↓exT7, ↓exT8, ↓exT9, ↓exT10, ↓exT11, ↓exT12, ↓exT13, ↓exT14, ↓exT15, ↓exT16, ↓exT17, ↓exT18, ↓exT19, ↓exT20, ↓exT21, ↓exT22, ↓exT23, ↓so0, ↓so1, ↓so2, ↓so3, ↓so4, ↓so5, ↓so6, ↓so7, ↓so8, ↓so9, ↓so10, ↓so11, ↓so12, ↓so13, ↓so14, ↓so15, ↓so16, ↓so17, ↓so18, ↓so19, ↓so20, ↓so21, ↓so22, ↓so23, ↓pp0, ↓pp1, ↓pp2, ↓pp3, ↓pp4, ↓pp5, ↓pp6, ↓pp7, ↓pp8, ↓pp9, ↓pp10, ↓pp11, ↓pp12, ↓pp13, ↓pp14, ↓pp15, ↓pp16, ↓pp17, ↓pp18, ↓pp19, ↓pp20, ↓pp21, ↓pp22, ↓pp23, ↓pq0, ↓pq1, ↓pq2, ↓pq3, ↓pq4, ↓pq5, ↓pq6, ↓pq7, ↓pq8, ↓pq9, ↓pq10, ↓pq11, ↓pq12, ↓pq13, ↓pq14, ↓pq15, ↓pq16, ↓pq17, ↓pq18, ↓pq19, ↓pq20, ↓pq21, ↓pq22, ↓pq23, ↓ps0, ↓ps1, ↓ps2, ↓ps3, ↓ps4, ↓ps5, ↓ps6, ↓ps7, ↓ps8, ↓ps9, ↓ps10, ↓ps11, ↓ps12, ↓ps13, ↓ps14, ↓ps15, ↓ps16, ↓ps17, ↓ps18, ↓ps19, ↓ps20, ↓ps21, ↓ps22, ↓ps23, ↓sr0, ↓sr1, ↓sr2, ↓sr3, ↓sr4, ↓sr5, ↓sr6, ↓sr7, ↓sr8, ↓sr9, ↓sr10, ↓sr11, ↓sr12, ↓sr13, ↓sr14, ↓sr15, ↓sr16, ↓sr17, ↓sr18, ↓sr19, ↓sr20, ↓sr21, ↓sr22, ↓sr23, ↓sr_no, ↓rt_f, ↓rt_t, ↓t_b, ↓b_addI, ↓b_subI, ↓b_mulI, ↓b_fdivI, ↓b_modI, ↓b_addL, ↓b_addT, ↓b_addS, ↓b_mulL, ↓b_mulT, ↓c_eqI, ↓c_neI, ↓c_ltI, ↓c_leI, ↓c_gtI, ↓c_geI, ↓c_eqS, ↓c_neS, ↓c_eq, ↓c_ne, ↓u_lenl, ↓u_lent, ↓u_tupLl, ↓u_tupTt, ↓u_lstQl, ↓u_lstQt, ↓u_intIi, ↓u_intBb, ↓u_absi, ↓u_repr, ↓u_isT, ↓u_isI, ↓u_isB, ↓u_isS, ↓u_all, ↓u_sum, ↓u_maxL, ↓u_minL, ↓u_sumT, ↓u_maxT, ↓u_minT, ↓u_sortDl, ↓u_sortDt, ↓u_max2, ↓u_min2, ↓u_gcd, ↓ix_l, ↓ix_t, ↓id_l0, ↓id_l1, ↓id_l2, ↓id_l3, ↓id_l4, ↓id_l5, ↓id_l6, ↓id_l7, ↓id_l8, ↓id_l9, ↓id_l10, ↓id_l11, ↓id_l12, ↓id_l13, ↓id_l14, ↓id_l15, ↓id_l16, ↓id_l17, ↓id_l18, ↓id_l19, ↓id_l20, ↓id_l21, ↓id_l22, ↓id_l23, ↓id_m0, ↓id_m1, ↓id_m2, ↓id_m3, ↓id_m4, ↓id_m5, ↓id_m6, ↓id_m7, ↓id_m8, ↓id_m9, ↓id_m10, ↓id_m11, ↓id_m12, ↓id_m13, ↓id_m14, ↓id_m15, ↓id_m16, ↓id_m17, ↓id_m18, ↓id_m19, ↓id_m20, ↓id_m21, ↓id_m22, ↓id_m23, ↓id_f, ↓id_r, ↓id_t, ↓idd0, ↓idd1, ↓idd2, ↓idd3, ↓idd4, ↓idd5, ↓idd6, ↓idd7, ↓idd8, ↓idd9, ↓idd10, ↓idd11, ↓idd12, ↓idd13, ↓idd14, ↓idd15, ↓idd16, ↓idd17, ↓idd18, ↓idd19, ↓idd20, ↓idd21, ↓idd22, ↓idd23, ↓idd_f, ↓idd_r, ↓dg, ↓dgd, ↓di, ↓pk, ↓i_l, ↓i_t, ↓sc_l, ↓sc_t, ↓pt_t, ↓pt_f, ↓it_l, ↓it_t, ↓ro1, ↓ro2, ↓ro3, ↓k_lst, ↓k_tup, ↓k_r1, ↓k_r2, ↓k_zl, ↓k_zt, ↓k_el, ↓k_et, ↓ex_fzT, ↓ex_fzI, ↓ex_fzB, ↓ex_T, ↓ex_L, ↓ex_some, ↓reduceIte, List.length_cons, List.length_nil, Nat.reduceAdd, Nat.reduceSub, true_and, and_true, List.nil_append, List.cons_append, decide_eq_true_eq, Bool.false_eq_true, List.append_nil, Bool.not_true, Bool.not_false, Bool.not_eq_true', decide_eq_false_iff_not]))
/-! told ways: the program's -/
section
variable {F : Fns} {k : Bool → D → Prop}
theorem sml {h : Nat} (hh : h < 2 ^ 30) : ((h : Nat) : Int).natAbs < 2 ^ 64 := by rw [Int.natAbs_natCast]; omega
theorem lev_run {s : So} {h : Nat} (hh : h < 2 ^ 30) (hk : k false (.int (lev s h : Nat))) : run F f_level_choices [s.d, .int (h : Nat)] k := by
  unfold f_level_choices b_level_choices
  trivial
  refine ⟨.inl (by decide), _, rfl, by simp, ?_⟩
  cases s
  all_goals
    refine ⟨rfl, _, rfl, ?_⟩
    first
      | exact hk
      | (rw [show ((lev _ h : Nat) : Int) = _ from rfl] at hk; simp only [lev] at hk; push_cast at hk; exact hk)
theorem dwn_run {s : So} {h : Nat} (hh : h < 2 ^ 30) (hk : k false (.int (dwn s h : Nat))) : run F f_down_choices [s.d, .int (h : Nat)] k := by
  unfold f_down_choices b_down_choices
  trivial
  refine ⟨.inl (by omega), _, rfl, by simp, ?_⟩
  cases s
  all_goals
    refine ⟨rfl, _, rfl, ?_⟩
    first
      | exact hk
      | (rw [show ((dwn _ h : Nat) : Int) = _ from rfl] at hk; simp only [dwn] at hk; push_cast at hk; exact hk)
theorem chs_run {s : So} {h l : Nat} (L : LevC F i_level_choices) (W : DwnC F i_down_choices) (hh : h < 2 ^ 30) (hl : l < 2 ^ 30) (hk : k false (.int (chs s h l : Nat))) : run F f_step_choices [s.d, .int (h : Nat), .int (l : Nat)] k := by
  unfold f_step_choices b_step_choices
  trivial
  unfold chs at hk
  by_cases h1 : h < l
  · rw [if_pos (by omega)]
    rw [if_pos h1] at hk
    exact hk
  · rw [if_neg (by omega)]
    rw [if_neg h1] at hk
    unfold b_step_choices_t1
    trivial
    by_cases h2 : l = h
    · rw [if_pos (by omega)]
      rw [if_pos h2] at hk
      exact L s h _ hh hk
    · rw [if_neg (by omega)]
      rw [if_neg h2] at hk
      exact W s l _ hl hk
end
section
variable {F : Fns} {s : So} {n k0 : Nat} {w c : List Nat} {acc : List D} {s2 s5 s6 s7 s8 s9 : Sl} {nx bk : Ev → Prop} {rt : Bool → D → Prop} {kk : Bool → D → Prop}
theorem lates_map {h m : Nat} : (([h, h + 1, h + 2].filter fun x => decide (1 ≤ x ∧ x ≤ m)).map fun (x : Nat) => PyData.int ((x : Int) - 1)) = (lates h m).map fun (l : Nat) => PyData.int (l : Nat) := by
  unfold lates
  rw [List.map_map]
  refine List.map_congr_left fun x hx => ?_
  have := of_decide_eq_true (List.mem_filter.mp hx).2
  simp only [Function.comp_apply]
  congr 1
  omega
theorem told_l2 (C : ChsC F i_step_choices) (hk : k0 < n) (hn : n ≤ 8) (hw : w ≠ []) (hwl : w.length ≤ 1000) (hcl : c.length ≤ 1000) (hl : lastN w ≤ 1000) (ha : acc.length + (tellNx s (n - k0) (w, c)).length ≤ 4000)
    (h : ∀ s7 s8 s9, nx [.fz s.d, .fz (.int n), s2, .fz (.int k0), .ow (.list (acc ++ (tellNx s (n - k0) (w, c)).map twD)), .fz (tN w), .fz (tN c), s7, s8, s9]) :
    wS F b_told_ways_l2 [.fz s.d, .fz (.int n), s2, .fz (.int k0), .ow (.list acc), .fz (tN w), .fz (tN c), s7, s8, s9] ⟨nx, rt, bk⟩ := by
  unfold b_told_ways_l2
  trivial
  refine getLast_at hw ?_
  trivial
  have e : [PyData.int ((lastN w : Int) - 1), .int (lastN w), .int ((lastN w : Int) + 1)] = [lastN w, lastN w + 1, lastN w + 2].map fun (x : Nat) => PyData.int ((x : Int) - 1) := by
    simp only [List.map_cons, List.map_nil]
    congr 3
    · omega
    · congr 2; omega
  rw [e]
  refine ⟨fits3, ?_⟩
  refine comp_keep (fun e => ∃ s8, e = [.fz s.d, .fz (.int n), s2, .fz (.int k0), .ow (.list acc), .fz (tN w), .fz (tN c), .fz (.int (lastN w)), s8, s9]) (fun x => decide (1 ≤ x ∧ x ≤ n - k0)) (fun x => PyData.int ((x : Int) - 1)) ⟨_, rfl⟩ ?_ ?_
  · rintro x e nn hx ⟨s8, rfl⟩ hnn
    simp only [turnC, wipeE, List.set_cons_succ, List.set_cons_zero]
    trivial
    by_cases h1 : 1 ≤ x ∧ x ≤ n - k0
    · have := hnn _ ⟨.fz (.int ((x : Int) - 1)), rfl⟩
      rw [if_pos (by simpa using h1)] at this
      rw [if_pos (by omega), if_pos (by omega)]
      exact this
    · have := hnn _ ⟨.fz (.int ((x : Int) - 1)), rfl⟩
      rw [if_neg (by simpa using h1)] at this
      by_cases h2 : (0 : Int) ≤ (x : Int) - 1
      · rw [if_pos h2, if_neg (by omega)]
        exact this
      · rw [if_neg h2]
        exact this
  · rintro e ⟨s8, rfl⟩
    simp only [backE, List.getD_cons_succ, List.getD_cons_zero, List.set_cons_succ, List.set_cons_zero, lates_map]
    trivial
    refine loop_fold (fun a l => a ++ (List.range (chs s (lastN w) l)).map fun x => (w ++ [l], c ++ [x])) (fun a e => ∃ s8 s9, e = [.fz s.d, .fz (.int n), s2, .fz (.int k0), .ow (.list (acc ++ a.map twD)), .fz (tN w), .fz (tN c), .fz (.int (lastN w)), s8, s9]) (s0 := []) ⟨_, _, by simp only [List.map_nil, List.append_nil]; rfl⟩ ?_ ?_
    · rintro pre l post e nn hd ⟨s8, s9, rfl⟩ hnn
      have hll := lates_le (h := lastN w) (m := n - k0) (x := l) (by rw [hd]; simp)
      have hfew : (pre.foldl (fun a l => a ++ (List.range (chs s (lastN w) l)).map fun x => (w ++ [l], c ++ [x])) []).length + chs s (lastN w) l ≤ (tellNx s (n - k0) (w, c)).length := by
        rw [foldl_app, List.nil_append]
        have := foldl_pre (f := fun l => (List.range (chs s (lastN w) l)).map fun x => (w ++ [l], c ++ [x])) (pre := pre) (post := post) (a := l)
        rw [List.length_append] at this
        unfold tellNx
        rw [hd]
        simpa using this
      generalize hp : pre.foldl (fun a l => a ++ (List.range (chs s (lastN w) l)).map fun x => (w ++ [l], c ++ [x])) [] = A at hfew hnn ⊢
      unfold b_told_ways_l3
      trivial
      refine C s (lastN w) l _ (by omega) (by omega) ?_
      trivial
      refine ⟨⟨by omega, by omega⟩, ?_⟩
      rw [Int.toNat_natCast]
      refine comp_map (fun e => ∃ s9, e = [.fz s.d, .fz (.int n), s2, .fz (.int k0), .ow (.list (acc ++ A.map twD)), .fz (tN w), .fz (tN c), .fz (.int (lastN w)), .fz (.int l), s9]) (fun x => twD (w ++ [l], c ++ [x])) ⟨_, rfl⟩ ?_ ?_
      · rintro x d e n3 hx ⟨s9, rfl⟩ hn3
        obtain ⟨hx, rfl⟩ := rng_get hx
        have ex : (0 : Int) + (x : Int) * 1 = x := by omega
        rw [ex]
        simp only [turnC, wipeE, List.set_cons_succ, List.set_cons_zero]
        trivial
        refine ⟨fits_of (by simp; omega), fits_of (by simp; omega), fits2, ?_⟩
        have := hn3 [.fz s.d, .fz (.int n), s2, .fz (.int k0), .ow (.list (acc ++ A.map twD)), .fz (tN w), .fz (tN c), .fz (.int (lastN w)), .fz (.int l), .fz (.int x)] ⟨_, rfl⟩
        have et : twD (w ++ [l], c ++ [x]) = .tuple [.tuple (nats w ++ [.int (l : Nat)]), .tuple (nats c ++ [.int (x : Nat)])] := by
          unfold twD tN
          rw [nats_app, nats_app]
          rfl
        rw [et] at this
        exact this
      · rintro e ⟨s9, rfl⟩
        simp only [backE, List.getD_cons_succ, List.getD_cons_zero, List.set_cons_succ, List.set_cons_zero, rng_len]
        trivial
        refine ⟨fits_of (by simp; omega), ?_⟩
        exact hnn _ ⟨_, _, by rw [List.map_append, List.map_map, List.append_assoc]; rfl⟩
    · rintro e ⟨s8, s9, rfl⟩
      rw [foldl_app, List.nil_append]
      exact h _ _ _
end
section
variable {F : Fns} {s : So} {n k0 : Nat} {w c : List Nat} {acc : List D} {s2 s5 s6 s7 s8 s9 : Sl} {nx bk : Ev → Prop} {rt : Bool → D → Prop} {kk : Bool → D → Prop}
theorem told_l1 (C : ChsC F i_step_choices) (hk : k0 < n) (hn : n ≤ s.most) {d : D} (hd : d = .list ((tellAt s n k0).map twD)) (h2 : s2 = .ow d ∨ s2 = .fz d) (s4 : Sl)
    (h : ∀ s4 s5 s6 s7 s8 s9, nx [.fz s.d, .fz (.int n), .fz (.list ((tellAt s n (k0 + 1)).map twD)), .fz (.int k0), s4, s5, s6, s7, s8, s9]) :
    wS F b_told_ways_l1 [.fz s.d, .fz (.int n), s2, .fz (.int k0), s4, s5, s6, s7, s8, s9] ⟨nx, rt, bk⟩ := by
  have h8 := most_le s
  have few := tell_few hn (k := k0 + 1) (by omega)
  have main : loopS F (Tg.t ((Tg.s 5).cons ((Tg.s 6).cons Tg.nil))) b_told_ways_l2 ((tellAt s n k0).map twD) [.fz s.d, .fz (.int n), .fz d, .fz (.int k0), .ow (.list []), s5, s6, s7, s8, s9] ⟨fun e => wS F b_told_ways_t4 e ⟨nx, rt, bk⟩, rt, bk⟩ (Hold.mk _) := by
    refine loop_fold (fun a p => a ++ tellNx s (n - k0) p) (fun a e => ∃ s5 s6 s7 s8 s9, e = [.fz s.d, .fz (.int n), .fz d, .fz (.int k0), .ow (.list (a.map twD)), s5, s6, s7, s8, s9]) (s0 := []) ⟨_, _, _, _, _, rfl⟩ ?_ ?_
    · rintro pre ⟨w, c⟩ post e nn hpp ⟨s5, s6, s7, s8, s9, rfl⟩ hnn
      have hm : (w, c) ∈ tellAt s n k0 := by rw [hpp]; simp
      obtain ⟨l1, l2⟩ := tell_len hm
      have l3 := tell_last hm
      simp only at l1 l2 l3
      have hfew : (pre.foldl (fun a p => a ++ tellNx s (n - k0) p) []).length + (tellNx s (n - k0) (w, c)).length ≤ 4000 := by
        rw [foldl_app, List.nil_append]
        have := foldl_pre (f := tellNx s (n - k0)) (pre := pre) (post := post) (a := (w, c))
        rw [List.length_append, ← hpp] at this
        exact Nat.le_trans this few
      generalize hp : pre.foldl (fun a p => a ++ tellNx s (n - k0) p) [] = A at hfew hnn ⊢
      rw [show twD (w, c) = .tuple [tN w, tN c] from rfl]
      trivial
      refine told_l2 C hk (by omega) (fun e => by rw [e] at l1; simp at l1) (by omega) (by omega) (by omega) (by rw [List.length_map]; exact hfew) fun s7 s8 s9 => ?_
      exact hnn _ ⟨_, _, _, _, _, by rw [List.map_append]⟩
    · rintro e ⟨s5, s6, s7, s8, s9, rfl⟩
      unfold b_told_ways_t4
      trivial
      rw [foldl_app, List.nil_append]
      exact h _ _ _ _ _ _
  unfold b_told_ways_l1
  subst hd
  rcases h2 with rfl | rfl
  · trivial
    exact ⟨fits0, main⟩
  · trivial
    exact ⟨fits0, main⟩
theorem told_run (C : ChsC F i_step_choices) (hn : n ≤ s.most) (h : kk true (.list ((tell s n).map twD))) : run F f_told_ways [s.d, .int n] kk := by
  have h8 := most_le s
  unfold f_told_ways b_told_ways
  trivial
  refine ⟨fits1, fits0, fits2, fits1, ⟨by omega, by omega⟩, ?_⟩
  rw [Int.toNat_natCast]
  refine loop_iter (fun i e => ∃ d s2 s3 s4 s5 s6 s7 s8 s9, e = [.fz s.d, .fz (.int n), s2, s3, s4, s5, s6, s7, s8, s9] ∧ d = .list ((tellAt s n i).map twD) ∧ (s2 = .ow d ∨ s2 = .fz d)) ⟨_, _, _, _, _, _, _, _, _, rfl, rfl, .inl rfl⟩ ?_ ?_
  · rintro i e nn hi ⟨d, s2, s3, s4, s5, s6, s7, s8, s9, rfl, hd, h2⟩ hnn
    rw [Int.zero_add]
    trivial
    exact told_l1 C hi hn hd h2 _ fun _ _ _ _ _ _ => hnn _ ⟨_, _, _, _, _, _, _, _, _, rfl, rfl, .inr rfl⟩
  · rintro e ⟨d, s2, s3, s4, s5, s6, s7, s8, s9, rfl, rfl, h2⟩
    have so : SortsD ((tellAt s n n).map twD) := tw_sorts fun p hp => by have := (tell_len hp).2; omega
    unfold b_told_ways_t5
    rcases h2 with rfl | rfl
    · trivial
      refine ⟨so, ?_⟩
      rw [sort_twD]
      exact h
    · trivial
      refine ⟨so, ?_⟩
      rw [sort_twD]
      exact h
end
end Ev
/-! Dbt57: what the defs do (printed by gen/dat.py from lib). -/
namespace Ev
open PySem L2
local macro_rules | `(tactic| trivial) => `(tactic| ((try simp only [run, frame, List.map, List.replicate, Nat.reduceAdd, Nat.reduceSub, List.length_cons, List.length_nil, Bool.false_eq_true, if_false, if_true, List.nil_append, List.cons_append, true_and]); simp only [↓it_tF, ↓bd_fr, ↓idx_fr0, ↓idx_fr1, ↓i_tF, ↓i_lF, ↓u_ltF, ↓u_llF, ↓at2_0, ↓at2_1, fr0, fr1, ↓w_k, ↓w_vf0, ↓w_vf1, ↓w_vf2, ↓w_vf3, ↓w_vf4, ↓w_vf5, ↓w_vf6, ↓w_vf7, ↓w_vf8, ↓w_vf9, ↓w_vf10, ↓w_vf11, ↓w_vf12, ↓w_vf13, ↓w_vf14, ↓w_vf15, ↓w_vf16, ↓w_vf17, ↓w_vf18, ↓w_vf19, ↓w_vf20, ↓w_vf21, ↓w_vf22, ↓w_vf23, ↓w_vo0, ↓w_vo1, ↓w_vo2, ↓w_vo3, ↓w_vo4, ↓w_vo5, ↓w_vo6, ↓w_vo7, ↓w_vo8, ↓w_vo9, ↓w_vo10, ↓w_vo11, ↓w_vo12, ↓w_vo13, ↓w_vo14, ↓w_vo15, ↓w_vo16, ↓w_vo17, ↓w_vo18, ↓w_vo19, ↓w_vo20, ↓w_vo21, ↓w_vo22, ↓w_vo23, ↓w_mf0, ↓w_mf1, ↓w_mf2, ↓w_mf3, ↓w_mf4, ↓w_mf5, ↓w_mf6, ↓w_mf7, ↓w_mf8, ↓w_mf9, ↓w_mf10, ↓w_mf11, ↓w_mf12, ↓w_mf13, ↓w_mf14, ↓w_mf15, ↓w_mf16, ↓w_mf17, ↓w_mf18, ↓w_mf19, ↓w_mf20, ↓w_mf21, ↓w_mf22, ↓w_mf23, ↓w_mo0, ↓w_mo1, ↓w_mo2, ↓w_mo3, ↓w_mo4, ↓w_mo5, ↓w_mo6, ↓w_mo7, ↓w_mo8, ↓w_mo9, ↓w_mo10, ↓w_mo11, ↓w_mo12, ↓w_mo13, ↓w_mo14, ↓w_mo15, ↓w_mo16, ↓w_mo17, ↓w_mo18, ↓w_mo19, ↓w_mo20, ↓w_mo21, ↓w_mo22, ↓w_mo23, ↓w_op, ↓w_neg, ↓w_cmp, ↓w_ch2, ↓w_isN, ↓w_notN, ↓w_isB, ↓w_notB, ↓w_and, ↓w_or, ↓w_not, ↓w_ite, ↓w_nil, ↓w_cons, ↓w_star, ↓w_tup, ↓w_lst, ↓w_idx, ↓w_slc, ↓w_revL, ↓w_b1, ↓w_b2max2, ↓w_b2min2, ↓w_b2gcd, ↓w_b2indexL, ↓w_b2indexT, ↓w_dic, ↓w_dget, ↓w_dgetd, ↓w_dIn, ↓w_slcT, ↓w_lrngT, ↓w_lrngF, ↓w_pop0, ↓w_pop1, ↓w_call, ↓w_comp, ↓s_skip, ↓s_seq, ↓s_set, ↓s_unp, ↓s_par, ↓p_nil, ↓p_cons, ↓h_fz, ↓h_fr, ↓h_bw, ↓pe_nil, ↓pe_cons, ↓sl_fz, ↓sl_fr, ↓put0, ↓put1, ↓put2, ↓put3, ↓put4, ↓put5, ↓put6, ↓put7, ↓put8, ↓put9, ↓put10, ↓put11, ↓put12, ↓put13, ↓put14, ↓put15, ↓put16, ↓put17, ↓put18, ↓put19, ↓put20, ↓put21, ↓put22, ↓put23, ↓s_app, ↓s_ext, ↓s_popS, ↓s_sto, ↓s_sto2, ↓s_ifs, ↓s_for, ↓s_whl, ↓s_ret, ↓s_brk, ↓s_nev, ↓r_fz, ↓r_fr, ↓r_bo0, ↓r_bo1, ↓r_bo2, ↓r_bo3, ↓r_bo4, ↓r_bo5, ↓r_bo6, ↓r_bo7, ↓r_bo8, ↓r_bo9, ↓r_bo10, ↓r_bo11, ↓r_bo12, ↓r_bo13, ↓r_bo14, ↓r_bo15, ↓r_bo16, ↓r_bo17, ↓r_bo18, ↓r_bo19, ↓r_bo20, ↓r_bo21, ↓r_bo22, ↓r_bo23, ↓r_bf0, ↓r_bf1, ↓r_bf2, ↓r_bf3, ↓r_bf4, ↓r_bf5, ↓r_bf6, ↓r_bf7, ↓r_bf8, ↓r_bf9, ↓r_bf10, ↓r_bf11, ↓r_bf12, ↓r_bf13, ↓r_bf14, ↓r_bf15, ↓r_bf16, ↓r_bf17, ↓r_bf18, ↓r_bf19, ↓r_bf20, ↓r_bf21, ↓r_bf22, ↓r_bf23, ↓g_fz, ↓g_fr, ↓g_bo0, ↓g_bo1, ↓g_bo2, ↓g_bo3, ↓g_bo4, ↓g_bo5, ↓g_bo6, ↓g_bo7, ↓g_bo8, ↓g_bo9, ↓g_bo10, ↓g_bo11, ↓g_bo12, ↓g_bo13, ↓g_bo14, ↓g_bo15, ↓g_bo16, ↓g_bo17, ↓g_bo18, ↓g_bo19, ↓g_bo20, ↓g_bo21, ↓g_bo22, ↓g_bo23, ↓g_bf0, ↓g_bf1, ↓g_bf2, ↓g_bf3, ↓g_bf4, ↓g_bf5, ↓g_bf6, ↓g_bf7, ↓g_bf8, ↓g_bf9, ↓g_bf10, ↓g_bf11, ↓g_bf12, ↓g_bf13, ↓g_bf14, ↓g_bf15, ↓g_bf16, ↓g_bf17, ↓g_bf18, ↓g_bf19, ↓g_bf20, ↓g_bf21, ↓g_bf22, ↓g_bf23, ↓o_fz, ↓o_fr, ↓o_bo0, ↓o_bo1, ↓o_bo2, ↓o_bo3, ↓o_bo4, ↓o_bo5, ↓o_bo6, ↓o_bo7, ↓o_bo8, ↓o_bo9, ↓o_bo10, ↓o_bo11, ↓o_bo12, ↓o_bo13, ↓o_bo14, ↓o_bo15, ↓o_bo16, ↓o_bo17, ↓o_bo18, ↓o_bo19, ↓o_bo20, ↓o_bo21, ↓o_bo22, ↓o_bo23, ↓o_bf0, ↓o_bf1, ↓o_bf2, ↓o_bf3, ↓o_bf4, ↓o_bf5, ↓o_bf6, ↓o_bf7, ↓o_bf8, ↓o_bf9, ↓o_bf10, ↓o_bf11, ↓o_bf12, ↓o_bf13, ↓o_bf14, ↓o_bf15, ↓o_bf16, ↓o_bf17, ↓o_bf18, ↓o_bf19, ↓o_bf20, ↓o_bf21, ↓o_bf22, ↓o_bf23, ↓st_f0, ↓st_f1, ↓st_f2, ↓st_f3, ↓st_f4, ↓st_f5, ↓st_f6, ↓st_f7, ↓st_f8, ↓st_f9, ↓st_f10, ↓st_f11, ↓st_f12, ↓st_f13, ↓st_f14, ↓st_f15, ↓st_f16, ↓st_f17, ↓st_f18, ↓st_f19, ↓st_f20, ↓st_f21, ↓st_f22, ↓st_f23, ↓st_o0, ↓st_o1, ↓st_o2, ↓st_o3, ↓st_o4, ↓st_o5, ↓st_o6, ↓st_o7, ↓st_o8, ↓st_o9, ↓st_o10, ↓st_o11, ↓st_o12, ↓st_o13, ↓st_o14, ↓st_o15, ↓st_o16, ↓st_o17, ↓st_o18, ↓st_o19, ↓st_o20, ↓st_o21, ↓st_o22, ↓st_o23, ↓sb0, ↓sb1, ↓sb2, ↓sb3, ↓sb4, ↓sb5, ↓sb6, ↓sb7, ↓sb8, ↓sb9, ↓sb10, ↓sb11, ↓sb12, ↓sb13, ↓sb14, ↓sb15, ↓sb16, ↓sb17, ↓sb18, ↓sb19, ↓sb20, ↓sb21, ↓sb22, ↓sb23, ↓bd0, ↓bd1, ↓bd2, ↓bd3, ↓bd4, ↓bd5, ↓bd6, ↓bd7, ↓bd8, ↓bd9, ↓bd10, ↓bd11, ↓bd12, ↓bd13, ↓bd14, ↓bd15, ↓bd16, ↓bd17, ↓bd18, ↓bd19, ↓bd20, ↓bd21, ↓bd22, ↓bd23, ↓bd_cons, ↓bd_nil, ↓bd_t, ↓ow0, ↓ow1, ↓ow2, ↓ow3, ↓ow4, ↓ow5, ↓ow6, ↓ow7, ↓ow8, ↓ow9, ↓ow10, ↓ow11, ↓ow12, ↓ow13, ↓ow14, ↓ow15, ↓ow16, ↓ow17, ↓ow18, ↓ow19, ↓ow20, ↓ow21, ↓ow22, ↓ow23, ↓ap0, ↓ap1, ↓ap2, ↓ap3, ↓ap4, ↓ap5, ↓ap6, ↓ap7, ↓ap8, ↓ap9, ↓ap10, ↓ap11, ↓ap12, ↓ap13, ↓ap14, ↓ap15, ↓ap16, ↓ap17, ↓ap18, ↓ap19, ↓ap20, ↓ap21, ↓ap22, ↓ap23, ↓ex0, ↓ex1, ↓ex2, ↓ex3, ↓ex4, ↓ex5, ↓ex6, ↓ex7, ↓ex8, ↓ex9, ↓ex10, ↓ex11, ↓ex12, ↓ex13, ↓ex14, ↓ex15, ↓ex16, ↓ex17, ↓ex18, ↓ex19, ↓ex20, ↓ex21, ↓ex22, ↓ex23, ↓exT0, ↓exT1, ↓exT2, ↓exT3, ↓exT4, ↓exT5, ↓exT6, ↓exT7, ↓exT8, ↓exT9, ↓exT10, ↓exT11, ↓exT12, ↓exT13, ↓exT14, ↓exT15, ↓exT16, ↓exT17, ↓exT18, ↓exT19, ↓exT20, ↓exT21, ↓exT22, ↓exT23, ↓so0, ↓so1, ↓so2, ↓so3, ↓so4, ↓so5, ↓so6, ↓so7, ↓so8, ↓so9, ↓so10, ↓so11, ↓so12, ↓so13, ↓so14, ↓so15, ↓so16, ↓so17, ↓so18, ↓so19, ↓so20, ↓so21, ↓so22, ↓so23, ↓pp0, ↓pp1, ↓pp2, ↓pp3, ↓pp4, ↓pp5, ↓pp6, ↓pp7, ↓pp8, ↓pp9, ↓pp10, ↓pp11, ↓pp12, ↓pp13, ↓pp14, ↓pp15, ↓pp16, ↓pp17, ↓pp18, ↓pp19, ↓pp20, ↓pp21, ↓pp22, ↓pp23, ↓pq0, ↓pq1, ↓pq2, ↓pq3, ↓pq4, ↓pq5, ↓pq6, ↓pq7, ↓pq8, ↓pq9, ↓pq10, ↓pq11, ↓pq12, ↓pq13, ↓pq14, ↓pq15, ↓pq16, ↓pq17, ↓pq18, ↓pq19, ↓pq20, ↓pq21, ↓pq22, ↓pq23, ↓ps0, ↓ps1, ↓ps2, ↓ps3, ↓ps4, ↓ps5, ↓ps6, ↓ps7, ↓ps8, ↓ps9, ↓ps10, ↓ps11, ↓ps12, ↓ps13, ↓ps14, ↓ps15, ↓ps16, ↓ps17, ↓ps18, ↓ps19, ↓ps20, ↓ps21, ↓ps22, ↓ps23, ↓sr0, ↓sr1, ↓sr2, ↓sr3, ↓sr4, ↓sr5, ↓sr6, ↓sr7, ↓sr8, ↓sr9, ↓sr10, ↓sr11, ↓sr12, ↓sr13, ↓sr14, ↓sr15, ↓sr16, ↓sr17, ↓sr18, ↓sr19, ↓sr20, ↓sr21, ↓sr22, ↓sr23, ↓sr_no, ↓rt_f, ↓rt_t, ↓t_b, ↓b_addI, ↓b_subI, ↓b_mulI, ↓b_fdivI, ↓b_modI, ↓b_addL, ↓b_addT, ↓b_addS, ↓b_mulL, ↓b_mulT, ↓c_eqI, ↓c_neI, ↓c_ltI, ↓c_leI, ↓c_gtI, ↓c_geI, ↓c_eqS, ↓c_neS, ↓c_eq, ↓c_ne, ↓u_lenl, ↓u_lent, ↓u_tupLl, ↓u_tupTt, ↓u_lstQl, ↓u_lstQt, ↓u_intIi, ↓u_intBb, ↓u_absi, ↓u_repr, ↓u_isT, ↓u_isI, ↓u_isB, ↓u_isS, ↓u_all, ↓u_sum, ↓u_maxL, ↓u_minL, ↓u_sumT, ↓u_maxT, ↓u_minT, ↓u_sortDl, ↓u_sortDt, ↓u_max2, ↓u_min2, ↓u_gcd, ↓ix_l, ↓ix_t, ↓id_l0, ↓id_l1, ↓id_l2, ↓id_l3, ↓id_l4, ↓id_l5, ↓id_l6, ↓id_l7, ↓id_l8, ↓id_l9, ↓id_l10, ↓id_l11, ↓id_l12, ↓id_l13, ↓id_l14, ↓id_l15, ↓id_l16, ↓id_l17, ↓id_l18, ↓id_l19, ↓id_l20, ↓id_l21, ↓id_l22, ↓id_l23, ↓id_m0, ↓id_m1, ↓id_m2, ↓id_m3, ↓id_m4, ↓id_m5, ↓id_m6, ↓id_m7, ↓id_m8, ↓id_m9, ↓id_m10, ↓id_m11, ↓id_m12, ↓id_m13, ↓id_m14, ↓id_m15, ↓id_m16, ↓id_m17, ↓id_m18, ↓id_m19, ↓id_m20, ↓id_m21, ↓id_m22, ↓id_m23, ↓id_f, ↓id_r, ↓id_t, ↓idd0, ↓idd1, ↓idd2, ↓idd3, ↓idd4, ↓idd5, ↓idd6, ↓idd7, ↓idd8, ↓idd9, ↓idd10, ↓idd11, ↓idd12, ↓idd13, ↓idd14, ↓idd15, ↓idd16, ↓idd17, ↓idd18, ↓idd19, ↓idd20, ↓idd21, ↓idd22, ↓idd23, ↓idd_f, ↓idd_r, ↓dg, ↓dgd, ↓di, ↓pk, ↓i_l, ↓i_t, ↓sc_l, ↓sc_t, ↓pt_t, ↓pt_f, ↓it_l, ↓it_t, ↓ro1, ↓ro2, ↓ro3, ↓k_lst, ↓k_tup, ↓k_r1, ↓k_r2, ↓k_zl, ↓k_zt, ↓k_el, ↓k_et, ↓ex_fzT, ↓ex_fzI, ↓ex_fzB, ↓ex_T, ↓ex_L, ↓ex_some, ↓reduceIte, List.length_cons, List.length_nil, Nat.reduceAdd, Nat.reduceSub, true_and, and_true, List.nil_append, List.cons_append, decide_eq_true_eq, Bool.false_eq_true, List.append_nil, Bool.not_true, Bool.not_false, Bool.not_eq_true', decide_eq_false_iff_not]))
/-! told ways: the law's -/
section
variable {F : Fns} {k : Bool → D → Prop}
theorem lch_run {s : So} {h l : Nat} (hh : h < 2 ^ 30) (hl : l < 2 ^ 30) (hk : k false (.int (lch s h l : Nat))) : run F f__law_choices [s.d, .int (h : Nat), .int (l : Nat)] k := by
  unfold f__law_choices b__law_choices
  try trivial
  unfold lch at hk
  by_cases h1 : h < l
  · rw [if_pos (by omega)]
    rw [if_pos h1] at hk
    exact hk
  · rw [if_neg (by omega)]
    rw [if_neg h1] at hk
    unfold b__law_choices_t1
    try trivial
    by_cases h2 : l = h
    · rw [if_pos (by omega)]
      rw [if_pos h2] at hk
      refine ⟨.inl (by decide), _, rfl, by simp, ?_⟩
      cases s
      all_goals
        refine ⟨rfl, _, rfl, ?_⟩
        first
          | exact hk
          | (simp only [lev] at hk; push_cast at hk; exact hk)
    · rw [if_neg (by omega)]
      rw [if_neg h2] at hk
      unfold b__law_choices_t2
      try trivial
      refine ⟨.inl (by omega), _, rfl, by simp, ?_⟩
      cases s
      all_goals
        refine ⟨rfl, _, rfl, ?_⟩
        first
          | exact hk
          | (simp only at hk; push_cast at hk; exact hk)
end
section
variable {F : Fns} {s : So} {n k0 : Nat} {w c : List Nat} {acc : List D} {s0 s1 s2 s3 s4 s5 s6 s7 s8 s9 : Sl} {nx bk : Ev → Prop} {rt : Bool → D → Prop} {kk : Bool → D → Prop}
theorem lways_l1 (hk : k0 < n) (hn : n ≤ s.most) {d : D} (hd : d = .list ((wayAt n k0).map tN)) (h1 : s1 = .ow d ∨ s1 = .fz d)
    (h : ∀ s3 s4 s5, nx [.fz (.int n), .fz (.list ((wayAt n (k0 + 1)).map tN)), .fz (.int k0), s3, s4, s5]) :
    wS F b__law_ways_l1 [.fz (.int n), s1, .fz (.int k0), s3, s4, s5] ⟨nx, rt, bk⟩ := by
  have h8 := most_le s
  have few := way_few hn (k := k0 + 1) (by omega)
  have main : loopS F (Tg.s 4) b__law_ways_l2 ((wayAt n k0).map tN) [.fz (.int n), .fz d, .fz (.int k0), .ow (.list []), s4, s5] ⟨fun e => wS F b__law_ways_t3 e ⟨nx, rt, bk⟩, rt, bk⟩ (Hold.mk _) := by
    refine loop_fold (fun a w => a ++ wayNx (n - k0) w) (fun a e => ∃ s4 s5, e = [.fz (.int n), .fz d, .fz (.int k0), .ow (.list (a.map tN)), s4, s5]) (s0 := []) ⟨_, _, rfl⟩ ?_ ?_
    · rintro pre w post e nn hpp ⟨s4, s5, rfl⟩ hnn
      have hm : w ∈ wayAt n k0 := by rw [hpp]; simp
      obtain ⟨l1, l2, l3⟩ := way_len hm
      have hw : w ≠ [] := fun e => by rw [e] at l1; simp at l1
      have hfew : (pre.foldl (fun a w => a ++ wayNx (n - k0) w) []).length + (wayNx (n - k0) w).length ≤ 4000 := by
        rw [foldl_app, List.nil_append]
        have := foldl_pre (f := wayNx (n - k0)) (pre := pre) (post := post) (a := w)
        rw [List.length_append, ← hpp] at this
        exact Nat.le_trans this few
      generalize hp : pre.foldl (fun a w => a ++ wayNx (n - k0) w) [] = A at hfew hnn ⊢
      unfold b__law_ways_l2
      try trivial
      refine getLast_at hw ?_
      try trivial
      refine getLast_at hw ?_
      try trivial
      refine getLast_at hw ?_
      try trivial
      have e : [PyData.int ((lastN w : Int) - 1), .int (lastN w), .int ((lastN w : Int) + 1)] = [lastN w, lastN w + 1, lastN w + 2].map fun (x : Nat) => PyData.int ((x : Int) - 1) := by
        simp only [List.map_cons, List.map_nil]
        congr 3
        · omega
        · congr 2; omega
      rw [e]
      refine ⟨fits3, ?_⟩
      refine comp_keep (fun e => ∃ s5, e = [.fz (.int n), .fz d, .fz (.int k0), .ow (.list (A.map tN)), .fz (tN w), s5]) (fun x => decide (1 ≤ x ∧ x ≤ n - k0)) (fun x => tN (w ++ [x - 1])) ⟨_, rfl⟩ ?_ ?_
      · rintro x e nn2 hx ⟨s5, rfl⟩ hnn2
        simp only [turnC, wipeE, List.set_cons_succ, List.set_cons_zero]
        try trivial
        by_cases h1 : 1 ≤ x ∧ x ≤ n - k0
        · have := hnn2 _ ⟨.fz (.int ((x : Int) - 1)), rfl⟩
          rw [if_pos (by simpa using h1)] at this
          rw [if_pos (by omega), if_pos (by omega)]
          refine ⟨fits1, fits_of (by simp; omega), ?_⟩
          have et : tN (w ++ [x - 1]) = .tuple (nats w ++ [.int ((x : Int) - 1)]) := by
            unfold tN
            rw [nats_app, show ((x : Int) - 1) = ((x - 1 : Nat) : Int) by omega]
            rfl
          rw [et] at this
          exact this
        · have := hnn2 _ ⟨.fz (.int ((x : Int) - 1)), rfl⟩
          rw [if_neg (by simpa using h1)] at this
          by_cases h2 : (0 : Int) ≤ (x : Int) - 1
          · rw [if_pos h2, if_neg (by omega)]
            exact this
          · rw [if_neg h2]
            exact this
      · rintro e ⟨s5, rfl⟩
        simp only [backE, List.getD_cons_succ, List.getD_cons_zero, List.set_cons_succ, List.set_cons_zero]
        have el : (([lastN w, lastN w + 1, lastN w + 2].filter fun x => decide (1 ≤ x ∧ x ≤ n - k0)).map fun x => tN (w ++ [x - 1])) = (wayNx (n - k0) w).map tN := by
          unfold wayNx lates
          rw [List.map_map, List.map_map]
          rfl
        rw [el]
        try trivial
        refine ⟨fits_of (by simp; omega), ?_⟩
        exact hnn _ ⟨_, _, by rw [List.map_append]⟩
    · rintro e ⟨s4, s5, rfl⟩
      unfold b__law_ways_t3
      try trivial
      rw [foldl_app, List.nil_append]
      exact h _ _ _
  unfold b__law_ways_l1
  subst hd
  rcases h1 with rfl | rfl
  · trivial
    exact ⟨fits0, main⟩
  · trivial
    exact ⟨fits0, main⟩
theorem lways_run (hn : n ≤ s.most) (h : kk true (.list ((lways n).map tN))) : run F f__law_ways [.int n] kk := by
  have h8 := most_le s
  unfold f__law_ways b__law_ways
  try trivial
  refine ⟨fits1, fits1, ⟨by omega, by omega⟩, ?_⟩
  rw [Int.toNat_natCast]
  refine loop_iter (fun i e => ∃ d s1 s2 s3 s4 s5, e = [.fz (.int n), s1, s2, s3, s4, s5] ∧ d = .list ((wayAt n i).map tN) ∧ (s1 = .ow d ∨ s1 = .fz d)) ⟨_, _, _, _, _, _, rfl, rfl, .inl rfl⟩ ?_ ?_
  · rintro i e nn hi ⟨d, s1, s2, s3, s4, s5, rfl, hd, h2⟩ hnn
    rw [Int.zero_add]
    try trivial
    exact lways_l1 hi hn hd h2 fun _ _ _ => hnn _ ⟨_, _, _, _, _, _, rfl, rfl, .inr rfl⟩
  · rintro e ⟨d, s1, s2, s3, s4, s5, rfl, rfl, h2⟩
    have so : SortsD ((wayAt n n).map tN) := tn_sorts fun w hw e => by have := (way_len hw).1; rw [e] at this; simp at this
    unfold b__law_ways_t4
    rcases h2 with rfl | rfl
    · trivial
      refine ⟨so, ?_⟩
      rw [sort_tN]
      exact h
    · trivial
      refine ⟨so, ?_⟩
      rw [sort_tN]
      exact h
end
section
variable {F : Fns} {s : So} {n k0 : Nat} {w c : List Nat} {acc : List D} {s0 s1 s2 s3 s4 s5 s6 s7 s8 s9 : Sl} {nx bk : Ev → Prop} {rt : Bool → D → Prop} {kk : Bool → D → Prop}
theorem getD_at {l : List Nat} {i : Nat} {j : Int} (e : j = i) (h : i < l.length) {P : D → Prop} (hp : P (.int (l.getD i 0 : Nat))) : ∃ d, at? (nats l) j = some d ∧ P d := at_nats e h hp
theorem get_le {l : List Nat} {n i : Nat} (h : ∀ x ∈ l, x ≤ n) : l.getD i 0 ≤ n := by
  rw [List.getD_eq_getElem?_getD]
  cases e : l[i]? with
  | none => exact Nat.zero_le _
  | some a => exact h a (List.mem_of_getElem? e)
theorem ltold_l2 (C : LchC F i__law_choices) (hk : k0 < n) (hn : n ≤ s.most) (hw : w ∈ lways n) {d : D} (hd : d = .list ((choAt s w k0).map tN)) (h4 : s4 = .ow d ∨ s4 = .fz d)
    (h : ∀ s6 s7 s8, nx [.fz s.d, .fz (.int n), s2, .fz (tN w), .fz (.list ((choAt s w (k0 + 1)).map tN)), .fz (.int k0), s6, s7, s8]) :
    wS F b__law_told_ways_l2 [.fz s.d, .fz (.int n), s2, .fz (tN w), s4, .fz (.int k0), s6, s7, s8] ⟨nx, rt, bk⟩ := by
  have h8 := most_le s
  have few := cho_few hn hw (k := k0 + 1) (by omega)
  obtain ⟨w1, w2, w3⟩ := lways_len hw
  have main : loopS F (Tg.s 7) b__law_told_ways_l3 ((choAt s w k0).map tN) [.fz s.d, .fz (.int n), s2, .fz (tN w), .fz d, .fz (.int k0), .ow (.list []), s7, s8] ⟨fun e => wS F b__law_told_ways_t4 e ⟨nx, rt, bk⟩, rt, bk⟩ (Hold.mk _) := by
    refine loop_fold (fun a c => a ++ (List.range (lch s (w.getD k0 0) (w.getD (k0 + 1) 0))).map fun x => c ++ [x]) (fun a e => ∃ s7 s8, e = [.fz s.d, .fz (.int n), s2, .fz (tN w), .fz d, .fz (.int k0), .ow (.list (a.map tN)), s7, s8]) (s0 := []) ⟨_, _, rfl⟩ ?_ ?_
    · rintro pre c post e nn hpp ⟨s7, s8, rfl⟩ hnn
      have hm : c ∈ choAt s w k0 := by rw [hpp]; simp
      have l1 := cho_len hm
      have hfew : (pre.foldl (fun a c => a ++ (List.range (lch s (w.getD k0 0) (w.getD (k0 + 1) 0))).map fun x => c ++ [x]) []).length + lch s (w.getD k0 0) (w.getD (k0 + 1) 0) ≤ 2000 := by
        rw [foldl_app, List.nil_append]
        have := foldl_pre (f := fun c => (List.range (lch s (w.getD k0 0) (w.getD (k0 + 1) 0))).map fun x => c ++ [x]) (pre := pre) (post := post) (a := c)
        rw [List.length_append, ← hpp] at this
        have := Nat.le_trans this few
        simpa using this
      generalize hp : pre.foldl (fun a c => a ++ (List.range (lch s (w.getD k0 0) (w.getD (k0 + 1) 0))).map fun x => c ++ [x]) [] = A at hfew hnn ⊢
      unfold b__law_told_ways_l3
      try trivial
      refine getD_at rfl (by omega) ?_
      try trivial
      refine getD_at (i := k0 + 1) (by omega) (by omega) ?_
      try trivial
      refine C s _ _ _ (Nat.lt_of_le_of_lt (get_le w3) (by omega)) (Nat.lt_of_le_of_lt (get_le w3) (by omega)) ?_
      try trivial
      refine ⟨⟨by omega, by omega⟩, ?_⟩
      rw [Int.toNat_natCast]
      refine comp_map (fun e => ∃ s8, e = [.fz s.d, .fz (.int n), s2, .fz (tN w), .fz d, .fz (.int k0), .ow (.list (A.map tN)), .fz (tN c), s8]) (fun x => tN (c ++ [x])) ⟨_, rfl⟩ ?_ ?_
      · rintro x d2 e nn2 hx ⟨s8, rfl⟩ hnn2
        obtain ⟨hx, rfl⟩ := rng_get hx
        have ex : (0 : Int) + (x : Int) * 1 = x := by omega
        rw [ex]
        simp only [turnC, wipeE, List.set_cons_succ, List.set_cons_zero]
        try trivial
        refine ⟨fits1, fits_of (by simp; omega), ?_⟩
        have := hnn2 _ ⟨.fz (.int x), rfl⟩
        have et : tN (c ++ [x]) = .tuple (nats c ++ [.int (x : Nat)]) := by
          unfold tN
          rw [nats_app]
          rfl
        rw [et] at this
        exact this
      · rintro e ⟨s8, rfl⟩
        simp only [backE, List.getD_cons_succ, List.getD_cons_zero, List.set_cons_succ, List.set_cons_zero, rng_len]
        try trivial
        refine ⟨fits_of (by simp only [List.length_append, List.length_map, List.length_range]; omega), ?_⟩
        exact hnn _ ⟨_, _, by rw [List.map_append, List.map_map]; rfl⟩
    · rintro e ⟨s7, s8, rfl⟩
      unfold b__law_told_ways_t4
      try trivial
      rw [foldl_app, List.nil_append]
      exact h _ _ _
  unfold b__law_told_ways_l2
  subst hd
  rcases h4 with rfl | rfl
  · try trivial
    exact ⟨fits0, main⟩
  · try trivial
    exact ⟨fits0, main⟩
theorem ltold_l1 (C : LchC F i__law_choices) (hn : n ≤ s.most) (hw : w ∈ lways n) {A : List TW} (hA : A.length + (choAt s w n).length ≤ 4000)
    (h : ∀ s4 s5 s6 s7 s8, nx [.fz s.d, .fz (.int n), .ow (.list ((A ++ (choAt s w n).map fun c => (w, c)).map twD)), .fz (tN w), s4, s5, s6, s7, s8]) :
    wS F b__law_told_ways_l1 [.fz s.d, .fz (.int n), .ow (.list (A.map twD)), .fz (tN w), s4, s5, s6, s7, s8] ⟨nx, rt, bk⟩ := by
  have h8 := most_le s
  unfold b__law_told_ways_l1
  try trivial
  refine ⟨fits0, fits1, ⟨by omega, by omega⟩, ?_⟩
  rw [Int.toNat_natCast]
  refine loop_iter (fun i e => ∃ d s4 s5 s6 s7 s8, e = [.fz s.d, .fz (.int n), .ow (.list (A.map twD)), .fz (tN w), s4, s5, s6, s7, s8] ∧ d = .list ((choAt s w i).map tN) ∧ (s4 = .ow d ∨ s4 = .fz d)) ⟨_, _, _, _, _, _, rfl, rfl, .inl rfl⟩ ?_ ?_
  · rintro i e nn hi ⟨d, s4, s5, s6, s7, s8, rfl, hd, h4⟩ hnn
    rw [Int.zero_add]
    try trivial
    exact ltold_l2 C hi hn hw hd h4 fun _ _ _ => hnn _ ⟨_, _, _, _, _, _, rfl, rfl, .inr rfl⟩
  · rintro e ⟨d, s4, s5, s6, s7, s8, rfl, rfl, h4⟩
    have main : compS F [7] (Tg.s 7) (Ex.k (PyData.bool true)) (Ex.tup (Ex.cons (Ex.v 3) (Ex.cons (Ex.v 7) Ex.nil))) ((choAt s w n).map tN) [.fz s.d, .fz (.int n), .ow (.list (A.map twD)), .fz (tN w), .fz (.list ((choAt s w n).map tN)), s5, s6, s7, s8]
        (fun vb e2 => with1 (.bw 2) e2 fun x => with1 vb e2 fun y => bopS .addL x y fun fr d => setV 2 (rets fr d) e2 fun e => nx e) (Hold.mk _) := by
      refine comp_all (fun e => ∃ s7, e = [.fz s.d, .fz (.int n), .ow (.list (A.map twD)), .fz (tN w), .fz (.list ((choAt s w n).map tN)), s5, s6, s7, s8]) (fun c => twD (w, c)) ⟨_, rfl⟩ ?_ ?_
      · rintro c e nn hc ⟨s7, rfl⟩ hnn
        simp only [turnC, wipeE, List.set_cons_succ, List.set_cons_zero]
        try trivial
        exact ⟨fits2, hnn _ ⟨_, rfl⟩⟩
      · rintro e ⟨s7, rfl⟩
        simp only [backE, List.getD_cons_succ, List.getD_cons_zero, List.set_cons_succ, List.set_cons_zero]
        try trivial
        refine ⟨fits_of (by simpa using hA), ?_⟩
        have e : (A ++ (choAt s w n).map fun c => (w, c)).map twD = A.map twD ++ (choAt s w n).map fun c => twD (w, c) := by rw [List.map_append, List.map_map]; rfl
        rw [← e]
        exact h _ _ _ _ _
    unfold b__law_told_ways_t5
    rcases h4 with rfl | rfl
    · try trivial
      exact main
    · try trivial
      exact main
theorem ltold_run (W : LWaysL F i__law_ways) (C : LchC F i__law_choices) (hn : n ≤ s.most) (h : kk true (.list ((ltell s n).map twD))) : run F f__law_told_ways [s.d, .int n] kk := by
  have h8 := most_le s
  have few := ltell_few hn
  unfold f__law_told_ways b__law_told_ways
  try trivial
  refine ⟨fits0, ?_⟩
  refine W s n _ hn ?_
  try trivial
  refine loop_fold (fun a w => a ++ (choAt s w n).map fun c => (w, c)) (fun a e => ∃ s3 s4 s5 s6 s7 s8, e = [.fz s.d, .fz (.int n), .ow (.list (a.map twD)), s3, s4, s5, s6, s7, s8]) (s0 := []) ⟨_, _, _, _, _, _, rfl⟩ ?_ ?_
  · rintro pre w post e nn hpp ⟨s3, s4, s5, s6, s7, s8, rfl⟩ hnn
    have hm : w ∈ lways n := by rw [hpp]; simp
    have hfew : (pre.foldl (fun a w => a ++ (choAt s w n).map fun c => (w, c)) []).length + (choAt s w n).length ≤ 4000 := by
      rw [foldl_app, List.nil_append]
      have := foldl_pre (f := fun w => (choAt s w n).map fun c => (w, c)) (pre := pre) (post := post) (a := w)
      rw [List.length_append, ← hpp] at this
      have := Nat.le_trans this few
      simpa using this
    generalize hp : pre.foldl (fun a w => a ++ (choAt s w n).map fun c => (w, c)) [] = A at hfew hnn ⊢
    try trivial
    exact ltold_l1 C hn hm hfew fun _ _ _ _ _ => hnn _ ⟨_, _, _, _, _, _, rfl⟩
  · rintro e ⟨s3, s4, s5, s6, s7, s8, rfl⟩
    rw [foldl_app, List.nil_append]
    have so : SortsD ((ltellU s n).map twD) := tw_sorts fun p hp => by have := (ltellU_len hp).2; omega
    unfold b__law_told_ways_t6
    try trivial
    refine ⟨so, ?_⟩
    rw [show ((lways n).flatMap fun w => (choAt s w n).map fun c => (w, c)) = ltellU s n from rfl, sort_twD]
    exact h
end
end Ev
/-! Dct57: what the defs do (printed by gen/dat.py from lib). -/
namespace Ev
open PySem L2
local macro_rules | `(tactic| trivial) => `(tactic| ((try simp only [run, frame, List.map, List.replicate, Nat.reduceAdd, Nat.reduceSub, List.length_cons, List.length_nil, Bool.false_eq_true, if_false, if_true, List.nil_append, List.cons_append, true_and]); simp only [↓it_tF, ↓bd_fr, ↓idx_fr0, ↓idx_fr1, ↓i_tF, ↓i_lF, ↓u_ltF, ↓u_llF, ↓at2_0, ↓at2_1, fr0, fr1, ↓w_k, ↓w_vf0, ↓w_vf1, ↓w_vf2, ↓w_vf3, ↓w_vf4, ↓w_vf5, ↓w_vf6, ↓w_vf7, ↓w_vf8, ↓w_vf9, ↓w_vf10, ↓w_vf11, ↓w_vf12, ↓w_vf13, ↓w_vf14, ↓w_vf15, ↓w_vf16, ↓w_vf17, ↓w_vf18, ↓w_vf19, ↓w_vf20, ↓w_vf21, ↓w_vf22, ↓w_vf23, ↓w_vo0, ↓w_vo1, ↓w_vo2, ↓w_vo3, ↓w_vo4, ↓w_vo5, ↓w_vo6, ↓w_vo7, ↓w_vo8, ↓w_vo9, ↓w_vo10, ↓w_vo11, ↓w_vo12, ↓w_vo13, ↓w_vo14, ↓w_vo15, ↓w_vo16, ↓w_vo17, ↓w_vo18, ↓w_vo19, ↓w_vo20, ↓w_vo21, ↓w_vo22, ↓w_vo23, ↓w_mf0, ↓w_mf1, ↓w_mf2, ↓w_mf3, ↓w_mf4, ↓w_mf5, ↓w_mf6, ↓w_mf7, ↓w_mf8, ↓w_mf9, ↓w_mf10, ↓w_mf11, ↓w_mf12, ↓w_mf13, ↓w_mf14, ↓w_mf15, ↓w_mf16, ↓w_mf17, ↓w_mf18, ↓w_mf19, ↓w_mf20, ↓w_mf21, ↓w_mf22, ↓w_mf23, ↓w_mo0, ↓w_mo1, ↓w_mo2, ↓w_mo3, ↓w_mo4, ↓w_mo5, ↓w_mo6, ↓w_mo7, ↓w_mo8, ↓w_mo9, ↓w_mo10, ↓w_mo11, ↓w_mo12, ↓w_mo13, ↓w_mo14, ↓w_mo15, ↓w_mo16, ↓w_mo17, ↓w_mo18, ↓w_mo19, ↓w_mo20, ↓w_mo21, ↓w_mo22, ↓w_mo23, ↓w_op, ↓w_neg, ↓w_cmp, ↓w_ch2, ↓w_isN, ↓w_notN, ↓w_isB, ↓w_notB, ↓w_and, ↓w_or, ↓w_not, ↓w_ite, ↓w_nil, ↓w_cons, ↓w_star, ↓w_tup, ↓w_lst, ↓w_idx, ↓w_slc, ↓w_revL, ↓w_b1, ↓w_b2max2, ↓w_b2min2, ↓w_b2gcd, ↓w_b2indexL, ↓w_b2indexT, ↓w_dic, ↓w_dget, ↓w_dgetd, ↓w_dIn, ↓w_slcT, ↓w_lrngT, ↓w_lrngF, ↓w_pop0, ↓w_pop1, ↓w_call, ↓w_comp, ↓s_skip, ↓s_seq, ↓s_set, ↓s_unp, ↓s_par, ↓p_nil, ↓p_cons, ↓h_fz, ↓h_fr, ↓h_bw, ↓pe_nil, ↓pe_cons, ↓sl_fz, ↓sl_fr, ↓put0, ↓put1, ↓put2, ↓put3, ↓put4, ↓put5, ↓put6, ↓put7, ↓put8, ↓put9, ↓put10, ↓put11, ↓put12, ↓put13, ↓put14, ↓put15, ↓put16, ↓put17, ↓put18, ↓put19, ↓put20, ↓put21, ↓put22, ↓put23, ↓s_app, ↓s_ext, ↓s_popS, ↓s_sto, ↓s_sto2, ↓s_ifs, ↓s_for, ↓s_whl, ↓s_ret, ↓s_brk, ↓s_nev, ↓r_fz, ↓r_fr, ↓r_bo0, ↓r_bo1, ↓r_bo2, ↓r_bo3, ↓r_bo4, ↓r_bo5, ↓r_bo6, ↓r_bo7, ↓r_bo8, ↓r_bo9, ↓r_bo10, ↓r_bo11, ↓r_bo12, ↓r_bo13, ↓r_bo14, ↓r_bo15, ↓r_bo16, ↓r_bo17, ↓r_bo18, ↓r_bo19, ↓r_bo20, ↓r_bo21, ↓r_bo22, ↓r_bo23, ↓r_bf0, ↓r_bf1, ↓r_bf2, ↓r_bf3, ↓r_bf4, ↓r_bf5, ↓r_bf6, ↓r_bf7, ↓r_bf8, ↓r_bf9, ↓r_bf10, ↓r_bf11, ↓r_bf12, ↓r_bf13, ↓r_bf14, ↓r_bf15, ↓r_bf16, ↓r_bf17, ↓r_bf18, ↓r_bf19, ↓r_bf20, ↓r_bf21, ↓r_bf22, ↓r_bf23, ↓g_fz, ↓g_fr, ↓g_bo0, ↓g_bo1, ↓g_bo2, ↓g_bo3, ↓g_bo4, ↓g_bo5, ↓g_bo6, ↓g_bo7, ↓g_bo8, ↓g_bo9, ↓g_bo10, ↓g_bo11, ↓g_bo12, ↓g_bo13, ↓g_bo14, ↓g_bo15, ↓g_bo16, ↓g_bo17, ↓g_bo18, ↓g_bo19, ↓g_bo20, ↓g_bo21, ↓g_bo22, ↓g_bo23, ↓g_bf0, ↓g_bf1, ↓g_bf2, ↓g_bf3, ↓g_bf4, ↓g_bf5, ↓g_bf6, ↓g_bf7, ↓g_bf8, ↓g_bf9, ↓g_bf10, ↓g_bf11, ↓g_bf12, ↓g_bf13, ↓g_bf14, ↓g_bf15, ↓g_bf16, ↓g_bf17, ↓g_bf18, ↓g_bf19, ↓g_bf20, ↓g_bf21, ↓g_bf22, ↓g_bf23, ↓o_fz, ↓o_fr, ↓o_bo0, ↓o_bo1, ↓o_bo2, ↓o_bo3, ↓o_bo4, ↓o_bo5, ↓o_bo6, ↓o_bo7, ↓o_bo8, ↓o_bo9, ↓o_bo10, ↓o_bo11, ↓o_bo12, ↓o_bo13, ↓o_bo14, ↓o_bo15, ↓o_bo16, ↓o_bo17, ↓o_bo18, ↓o_bo19, ↓o_bo20, ↓o_bo21, ↓o_bo22, ↓o_bo23, ↓o_bf0, ↓o_bf1, ↓o_bf2, ↓o_bf3, ↓o_bf4, ↓o_bf5, ↓o_bf6, ↓o_bf7, ↓o_bf8, ↓o_bf9, ↓o_bf10, ↓o_bf11, ↓o_bf12, ↓o_bf13, ↓o_bf14, ↓o_bf15, ↓o_bf16, ↓o_bf17, ↓o_bf18, ↓o_bf19, ↓o_bf20, ↓o_bf21, ↓o_bf22, ↓o_bf23, ↓st_f0, ↓st_f1, ↓st_f2, ↓st_f3, ↓st_f4, ↓st_f5, ↓st_f6, ↓st_f7, ↓st_f8, ↓st_f9, ↓st_f10, ↓st_f11, ↓st_f12, ↓st_f13, ↓st_f14, ↓st_f15, ↓st_f16, ↓st_f17, ↓st_f18, ↓st_f19, ↓st_f20, ↓st_f21, ↓st_f22, ↓st_f23, ↓st_o0, ↓st_o1, ↓st_o2, ↓st_o3, ↓st_o4, ↓st_o5, ↓st_o6, ↓st_o7, ↓st_o8, ↓st_o9, ↓st_o10, ↓st_o11, ↓st_o12, ↓st_o13, ↓st_o14, ↓st_o15, ↓st_o16, ↓st_o17, ↓st_o18, ↓st_o19, ↓st_o20, ↓st_o21, ↓st_o22, ↓st_o23, ↓sb0, ↓sb1, ↓sb2, ↓sb3, ↓sb4, ↓sb5, ↓sb6, ↓sb7, ↓sb8, ↓sb9, ↓sb10, ↓sb11, ↓sb12, ↓sb13, ↓sb14, ↓sb15, ↓sb16, ↓sb17, ↓sb18, ↓sb19, ↓sb20, ↓sb21, ↓sb22, ↓sb23, ↓bd0, ↓bd1, ↓bd2, ↓bd3, ↓bd4, ↓bd5, ↓bd6, ↓bd7, ↓bd8, ↓bd9, ↓bd10, ↓bd11, ↓bd12, ↓bd13, ↓bd14, ↓bd15, ↓bd16, ↓bd17, ↓bd18, ↓bd19, ↓bd20, ↓bd21, ↓bd22, ↓bd23, ↓bd_cons, ↓bd_nil, ↓bd_t, ↓ow0, ↓ow1, ↓ow2, ↓ow3, ↓ow4, ↓ow5, ↓ow6, ↓ow7, ↓ow8, ↓ow9, ↓ow10, ↓ow11, ↓ow12, ↓ow13, ↓ow14, ↓ow15, ↓ow16, ↓ow17, ↓ow18, ↓ow19, ↓ow20, ↓ow21, ↓ow22, ↓ow23, ↓ap0, ↓ap1, ↓ap2, ↓ap3, ↓ap4, ↓ap5, ↓ap6, ↓ap7, ↓ap8, ↓ap9, ↓ap10, ↓ap11, ↓ap12, ↓ap13, ↓ap14, ↓ap15, ↓ap16, ↓ap17, ↓ap18, ↓ap19, ↓ap20, ↓ap21, ↓ap22, ↓ap23, ↓ex0, ↓ex1, ↓ex2, ↓ex3, ↓ex4, ↓ex5, ↓ex6, ↓ex7, ↓ex8, ↓ex9, ↓ex10, ↓ex11, ↓ex12, ↓ex13, ↓ex14, ↓ex15, ↓ex16, ↓ex17, ↓ex18, ↓ex19, ↓ex20, ↓ex21, ↓ex22, ↓ex23, ↓exT0, ↓exT1, ↓exT2, ↓exT3, ↓exT4, ↓exT5, ↓exT6, ↓exT7, ↓exT8, ↓exT9, ↓exT10, ↓exT11, ↓exT12, ↓exT13, ↓exT14, ↓exT15, ↓exT16, ↓exT17, ↓exT18, ↓exT19, ↓exT20, ↓exT21, ↓exT22, ↓exT23, ↓so0, ↓so1, ↓so2, ↓so3, ↓so4, ↓so5, ↓so6, ↓so7, ↓so8, ↓so9, ↓so10, ↓so11, ↓so12, ↓so13, ↓so14, ↓so15, ↓so16, ↓so17, ↓so18, ↓so19, ↓so20, ↓so21, ↓so22, ↓so23, ↓pp0, ↓pp1, ↓pp2, ↓pp3, ↓pp4, ↓pp5, ↓pp6, ↓pp7, ↓pp8, ↓pp9, ↓pp10, ↓pp11, ↓pp12, ↓pp13, ↓pp14, ↓pp15, ↓pp16, ↓pp17, ↓pp18, ↓pp19, ↓pp20, ↓pp21, ↓pp22, ↓pp23, ↓pq0, ↓pq1, ↓pq2, ↓pq3, ↓pq4, ↓pq5, ↓pq6, ↓pq7, ↓pq8, ↓pq9, ↓pq10, ↓pq11, ↓pq12, ↓pq13, ↓pq14, ↓pq15, ↓pq16, ↓pq17, ↓pq18, ↓pq19, ↓pq20, ↓pq21, ↓pq22, ↓pq23, ↓ps0, ↓ps1, ↓ps2, ↓ps3, ↓ps4, ↓ps5, ↓ps6, ↓ps7, ↓ps8, ↓ps9, ↓ps10, ↓ps11, ↓ps12, ↓ps13, ↓ps14, ↓ps15, ↓ps16, ↓ps17, ↓ps18, ↓ps19, ↓ps20, ↓ps21, ↓ps22, ↓ps23, ↓sr0, ↓sr1, ↓sr2, ↓sr3, ↓sr4, ↓sr5, ↓sr6, ↓sr7, ↓sr8, ↓sr9, ↓sr10, ↓sr11, ↓sr12, ↓sr13, ↓sr14, ↓sr15, ↓sr16, ↓sr17, ↓sr18, ↓sr19, ↓sr20, ↓sr21, ↓sr22, ↓sr23, ↓sr_no, ↓rt_f, ↓rt_t, ↓t_b, ↓b_addI, ↓b_subI, ↓b_mulI, ↓b_fdivI, ↓b_modI, ↓b_addL, ↓b_addT, ↓b_addS, ↓b_mulL, ↓b_mulT, ↓c_eqI, ↓c_neI, ↓c_ltI, ↓c_leI, ↓c_gtI, ↓c_geI, ↓c_eqS, ↓c_neS, ↓c_eq, ↓c_ne, ↓u_lenl, ↓u_lent, ↓u_tupLl, ↓u_tupTt, ↓u_lstQl, ↓u_lstQt, ↓u_intIi, ↓u_intBb, ↓u_absi, ↓u_repr, ↓u_isT, ↓u_isI, ↓u_isB, ↓u_isS, ↓u_all, ↓u_sum, ↓u_maxL, ↓u_minL, ↓u_sumT, ↓u_maxT, ↓u_minT, ↓u_sortDl, ↓u_sortDt, ↓u_max2, ↓u_min2, ↓u_gcd, ↓ix_l, ↓ix_t, ↓id_l0, ↓id_l1, ↓id_l2, ↓id_l3, ↓id_l4, ↓id_l5, ↓id_l6, ↓id_l7, ↓id_l8, ↓id_l9, ↓id_l10, ↓id_l11, ↓id_l12, ↓id_l13, ↓id_l14, ↓id_l15, ↓id_l16, ↓id_l17, ↓id_l18, ↓id_l19, ↓id_l20, ↓id_l21, ↓id_l22, ↓id_l23, ↓id_m0, ↓id_m1, ↓id_m2, ↓id_m3, ↓id_m4, ↓id_m5, ↓id_m6, ↓id_m7, ↓id_m8, ↓id_m9, ↓id_m10, ↓id_m11, ↓id_m12, ↓id_m13, ↓id_m14, ↓id_m15, ↓id_m16, ↓id_m17, ↓id_m18, ↓id_m19, ↓id_m20, ↓id_m21, ↓id_m22, ↓id_m23, ↓id_f, ↓id_r, ↓id_t, ↓idd0, ↓idd1, ↓idd2, ↓idd3, ↓idd4, ↓idd5, ↓idd6, ↓idd7, ↓idd8, ↓idd9, ↓idd10, ↓idd11, ↓idd12, ↓idd13, ↓idd14, ↓idd15, ↓idd16, ↓idd17, ↓idd18, ↓idd19, ↓idd20, ↓idd21, ↓idd22, ↓idd23, ↓idd_f, ↓idd_r, ↓dg, ↓dgd, ↓di, ↓pk, ↓i_l, ↓i_t, ↓sc_l, ↓sc_t, ↓pt_t, ↓pt_f, ↓it_l, ↓it_t, ↓ro1, ↓ro2, ↓ro3, ↓k_lst, ↓k_tup, ↓k_r1, ↓k_r2, ↓k_zl, ↓k_zt, ↓k_el, ↓k_et, ↓ex_fzT, ↓ex_fzI, ↓ex_fzB, ↓ex_T, ↓ex_L, ↓ex_some, ↓reduceIte, List.length_cons, List.length_nil, Nat.reduceAdd, Nat.reduceSub, true_and, and_true, List.nil_append, List.cons_append, decide_eq_true_eq, Bool.false_eq_true, List.append_nil, Bool.not_true, Bool.not_false, Bool.not_eq_true', decide_eq_false_iff_not]))
/-! what is a level way -/
section
variable {F : Fns} {d : D} {xs : List D} {kk : Bool → D → Prop} {s1 s2 : Sl}
theorem rng_fil {own : List Nat} {tg : Tg} {t e : Ex} {n : Nat} {lo : Int} {env : Ev} {kk : Vl → Ev → Prop} {g : Hold kk} (P : Ev → Prop) (p : Nat → Bool) (f : Nat → D) (h0 : P env)
    (step : ∀ (i : Nat) e0 (nn : Option D → Ev → Prop), i < n → P e0 → (∀ e', P e' → nn (if p i = true then some (f i) else none) e') → turnC F own tg t e (.int (lo + (i : Int))) e0 nn)
    (fin : ∀ e9, P e9 → kk (.fr (.list (((List.range n).filter p).map f))) (backE env e9 own)) : compS F own tg t e (rngL lo n 1) env kk g := by
  unfold rngL
  refine comp_keep P p f h0 (fun i e0 nn hi he hn => ?_) fin
  rw [Int.mul_one]
  exact step i e0 nn (List.mem_range.mp hi) he hn
theorem lvl_t2 {w : List Nat} (hl : w.length ≤ 10000) (h : kk false (.bool (lvlN w))) : wS F b_is_level_way_t2 [.fz (tN w), s1, s2] ⟨fun _ => kk false .none, kk, fun _ => False⟩ := by
  unfold b_is_level_way_t2
  try trivial
  refine ⟨⟨by omega, by omega, by simp only [nats_len]; omega, by simp only [nats_len]; omega, by simp only [nats_len]; omega⟩, ?_⟩
  rw [show (((nats w).length : Nat) : Int) - 1 = ((w.length : Nat) : Int) - 1 by simp]
  refine rng_fil (fun e => ∃ s2, e = [.fz (tN w), s1, s2]) (fun i => !stepB w i) (fun i => .int (1 + (i : Int))) ⟨_, rfl⟩ ?_ ?_
  · rintro i e nn hi ⟨s2, rfl⟩ hn
    simp only [turnC, wipeE, List.set_cons_succ, List.set_cons_zero]
    try trivial
    refine at_nats (i := i + 1) (by omega) (by omega) ?_
    try trivial
    refine at_nats (i := i) (by omega) (by omega) ?_
    try trivial
    have := hn _ ⟨.fz (.int (1 + (i : Int))), rfl⟩
    by_cases hs : stepB w i = true
    · rw [hs, if_neg (by simp)] at this
      have := of_decide_eq_true hs
      rw [if_neg]
      · assumption
      · split <;> omega
    · rw [show stepB w i = false by simpa using hs, if_pos (by simp)] at this
      have hs : ¬ (w.getD (i + 1) 0 ≤ w.getD i 0 + 1 ∧ w.getD i 0 ≤ w.getD (i + 1) 0 + 1) := by simpa [stepB] using hs
      rw [if_pos]
      · assumption
      · split <;> omega
  · rintro e ⟨s2, rfl⟩
    simp only [backE, List.getD_cons_succ, List.getD_cons_zero, List.set_cons_succ, List.set_cons_zero]
    try trivial
    refine ⟨fits0, ?_, shp_nilL, ?_⟩
    · exact (Sps.all fun d hd => by obtain ⟨i, _, rfl⟩ := List.mem_map.mp hd; exact Sp0.int).lst.shp (by decide)
    · rw [eqv_nilL]
      have e : (((List.range (((w.length : Nat) : Int) - 1).toNat).filter fun i => !stepB w i).map fun (i : Nat) => PyData.int (1 + (i : Int))).isEmpty = lvlN w := by
        rw [show (((w.length : Nat) : Int) - 1).toNat = w.length - 1 by omega]
        unfold lvlN
        rw [Bool.eq_iff_iff, List.isEmpty_iff, List.map_eq_nil_iff, List.filter_eq_nil_iff, List.all_eq_true]
        refine forall_congr' fun i => ?_
        cases stepB w i <;> simp
      rw [e]
      exact h
theorem lvl_run (hd : Tm (2 ^ 30) 50 10000 d) (h : kk false (.bool (isLvl d))) : run F f_is_level_way [d] kk := by
  unfold f_is_level_way b_is_level_way
  try trivial
  cases d with
  | tuple xs =>
    try trivial
    refine ⟨fits0, hd.shp (by decide) (by decide), shp_nil, ?_⟩
    rw [eqv_nil]
    have hl : xs.length ≤ 10000 := Nat.le_trans len_bulk hd.tup0.bk
    by_cases he : xs.isEmpty = true
    · rw [if_pos he]
      simp only [isLvl, he, Bool.not_true, Bool.false_and] at h
      exact h
    · rw [if_neg he]
      have he : xs.isEmpty = false := by simpa using he
      simp only [isLvl, he, Bool.not_false, Bool.true_and] at h
      unfold b_is_level_way_t1
      try trivial
      have e0 : xs.map id = xs := List.map_id xs
      rw [← e0]
      refine comp_all (fun e => ∃ s1, e = [.fz (.tuple (xs.map id)), s1, .no]) (fun d => .bool (isNatD d)) ⟨_, rfl⟩ ?_ ?_
      · rintro d e nn hx ⟨s1, rfl⟩ hnn
        simp only [turnC, wipeE, List.set_cons_succ, List.set_cons_zero, id]
        have := hnn _ ⟨.fz d, rfl⟩
        cases d <;> (try trivial) <;> exact this
      · rintro e ⟨s1, rfl⟩
        simp only [backE, List.getD_cons_succ, List.getD_cons_zero, List.set_cons_succ, List.set_cons_zero]
        try trivial
        refine ⟨_, bools_map, ?_⟩
        rw [all_id]
        rw [e0]
        by_cases ha : xs.all isNatD = true
        · rw [if_neg (by simp [ha])]
          rw [ha, Bool.true_and] at h
          have ew := all_nats ha
          rw [ew]
          exact lvl_t2 (by rw [List.length_map]; exact hl) h
        · rw [if_pos (by simpa using ha)]
          rw [show xs.all isNatD = false by simpa using ha, Bool.false_and] at h
          exact h
  | _ =>
    try trivial
end
/-! which data are told ways: the program's look -/
section
variable {F : Fns} {d : D} {s : So} {xs ys : List D} {w : List Nat} {kk : Bool → D → Prop} {s1 s2 s3 s4 s5 : Sl}
theorem enum_at {ys : List D} {i : Nat} {d : D} (h : (enumL 0 ys)[i]? = some d) : ∃ x, ys[i]? = some x ∧ d = .tuple [.int (i : Nat), x] := by
  have key : ∀ (ys : List D) (m i : Nat) (d : D), (enumL m ys)[i]? = some d → ∃ x, ys[i]? = some x ∧ d = .tuple [.int ((m + i : Nat) : Int), x] := by
    intro ys
    induction ys with
    | nil => intro m i d h; simp [enumL] at h
    | cons y r ih =>
      intro m i d h
      cases i with
      | zero => simp only [enumL, List.getElem?_cons_zero, Option.some.injEq] at h; exact ⟨y, rfl, h.symm⟩
      | succ i =>
        simp only [enumL, List.getElem?_cons_succ] at h ⊢
        obtain ⟨x, h1, h2⟩ := ih (m + 1) i d h
        exact ⟨x, h1, by rw [h2, show m + 1 + i = m + (i + 1) by omega]⟩
  obtain ⟨x, h1, h2⟩ := key ys 0 i d h
  exact ⟨x, h1, by rw [h2, Nat.zero_add]⟩
theorem enum_len {ys : List D} : (enumL 0 ys).length = ys.length := by
  have key : ∀ (ys : List D) (m : Nat), (enumL m ys).length = ys.length := by
    intro ys
    induction ys with
    | nil => intro m; rfl
    | cons y r ih => intro m; simp [enumL, ih (m + 1)]
  exact key ys 0
theorem natD_at {ys : List D} {i : Nat} : (ys.map natD).getD i 0 = (match ys[i]? with | some d => natD d | none => 0) := by
  rw [List.getD_eq_getElem?_getD, List.getElem?_map]
  cases ys[i]? <;> rfl
/-- the choice at a place is a right one -/
def okC (s : So) (w : List Nat) (ys : List D) (i : Nat) : Bool := (match ys[i]? with | some d => isNatD d | none => false) && chB s w (ys.map natD) i
theorem okC_all {s : So} {w : List Nat} {ys : List D} : (ys.all isNatD && (List.range ys.length).all (chB s w (ys.map natD))) = (List.range ys.length).all (okC s w ys) := by
  rw [Bool.eq_iff_iff, Bool.and_eq_true, List.all_eq_true, List.all_eq_true, List.all_eq_true]
  constructor
  · rintro ⟨h1, h2⟩ i hi
    have hi' := List.mem_range.mp hi
    unfold okC
    rw [h2 i hi, List.getElem?_eq_getElem hi', Bool.and_true]
    exact h1 _ (List.getElem_mem hi')
  · intro h
    refine ⟨fun d hd => ?_, fun i hi => ?_⟩
    · obtain ⟨i, hi, rfl⟩ := List.getElem_of_mem hd
      have := h i (List.mem_range.mpr hi)
      unfold okC at this
      rw [List.getElem?_eq_getElem hi, Bool.and_eq_true] at this
      exact this.1
    · have := h i hi
      unfold okC at this
      rw [Bool.and_eq_true] at this
      exact this.2
theorem tld_t2 (C : ChsC F i_step_choices) (hw : ∀ x ∈ w, x < 2 ^ 30) (hl : w.length = ys.length + 1) (h : kk false (.bool ((List.range ys.length).all (okC s w ys)))) :
    wS F b_is_told_way_t2 [.fz s.d, s1, .fz (tN w), .fz (.tuple ys), s4, s5] ⟨fun _ => kk false .none, kk, fun _ => False⟩ := by
  unfold b_is_told_way_t2
  try trivial
  refine loop_inv (fun i e => (∀ j, j < i → okC s w ys j = true) ∧ ∃ s4 s5, e = [.fz s.d, s1, .fz (tN w), .fz (.tuple ys), s4, s5]) ⟨fun j hj => absurd hj (Nat.not_lt_zero _), _, _, rfl⟩ ?_ ?_
  · rintro i d e nn hd ⟨hi, s4, s5, rfl⟩ hnn
    obtain ⟨x, hx, rfl⟩ := enum_at hd
    obtain ⟨hil, hxe⟩ := List.getElem?_eq_some_iff.mp hx
    have bad : okC s w ys i = false → kk false (.bool false) := fun hb => by
      have : (List.range ys.length).all (okC s w ys) = false := by
        rw [List.all_eq_false]
        exact ⟨i, List.mem_range.mpr hil, by rw [hb]; decide⟩
      rw [this] at h
      exact h
    have ok1 : okC s w ys i = (isNatD x && chB s w (ys.map natD) i) := by unfold okC; rw [hx]
    have eg : (ys.map natD).getD i 0 = natD x := by rw [natD_at, hx]
    try trivial
    unfold b_is_told_way_l3
    cases x with
    | int v =>
      try trivial
      unfold b_is_told_way_t4
      try trivial
      by_cases hv : 0 ≤ v
      · rw [if_pos hv]
        try trivial
        refine at_nats rfl (by omega) ?_
        try trivial
        refine at_nats (i := i + 1) (by omega) (by omega) ?_
        try trivial
        refine C s _ _ _ (get_lt hw) (get_lt hw) ?_
        try trivial
        by_cases hc : okC s w ys i = true
        · have hcb : v.toNat < chs s (w.getD i 0) (w.getD (i + 1) 0) := by
            rw [ok1, Bool.and_eq_true] at hc
            have := of_decide_eq_true hc.2
            rwa [eg] at this
          rw [if_neg (by omega)]
          exact hnn _ ⟨fun j hj => by
            rcases Nat.lt_succ_iff_lt_or_eq.mp hj with hj | rfl
            · exact hi j hj
            · exact hc, _, _, rfl⟩
        · have hcb : ¬ v.toNat < chs s (w.getD i 0) (w.getD (i + 1) 0) := by
            intro hq
            apply hc
            rw [ok1, Bool.and_eq_true]
            exact ⟨by simpa [isNatD] using hv, by unfold chB; rw [eg]; exact decide_eq_true hq⟩
          rw [if_pos (by omega)]
          exact bad (by simpa using hc)
      · rw [if_neg hv]
        try trivial
        exact bad (by rw [ok1]; simp [isNatD, hv])
    | _ =>
      try trivial
      exact bad (by rw [ok1]; rfl)
  · rintro e ⟨hi, s4, s5, rfl⟩
    rw [enum_len] at hi
    unfold b_is_told_way_t5
    try trivial
    have : (List.range ys.length).all (okC s w ys) = true := List.all_eq_true.mpr fun i hi' => hi i (List.mem_range.mp hi')
    rw [this] at h
    exact h
end
section
variable {F : Fns} {d : D} {s : So} {xs ys : List D} {w : List Nat} {kk : Bool → D → Prop} {s1 s2 s3 s4 s5 : Sl}
theorem twN_eq {c : List Nat} : twN s w c = (decide (w.length = c.length + 1) && (decide (w.getD 0 0 = 0) && (decide (lastN w = 0) && (lvlN w && (List.range c.length).all (chB s w c))))) := by
  unfold twN lvlN
  by_cases h : w.length = c.length + 1
  · rw [decide_eq_true h, Bool.true_and, Bool.true_and]
    congr 2
    rw [show w.length - 1 = c.length by omega, Bool.eq_iff_iff, Bool.and_eq_true, List.all_eq_true, List.all_eq_true, List.all_eq_true]
    constructor
    · intro h
      exact ⟨fun i hi => ((Bool.and_eq_true _ _).mp (h i hi)).1, fun i hi => ((Bool.and_eq_true _ _).mp (h i hi)).2⟩
    · rintro ⟨h1, h2⟩ i hi
      rw [Bool.and_eq_true]
      exact ⟨h1 i hi, h2 i hi⟩
  · rw [decide_eq_false h, Bool.false_and, Bool.false_and]
theorem told_len {zs : List D} (h : zs.length ≠ 2) : isTold s (.tuple zs) = false := by
  unfold isTold
  split
  · rename_i e
    cases e
    simp at h
  · rfl
theorem told_no (h : isLvl (.tuple xs) = false) : isTold s (.tuple [.tuple xs, .tuple ys]) = false := by
  show (xs.all isNatD && (ys.all isNatD && twN s (xs.map natD) (ys.map natD))) = false
  simp only [isLvl] at h
  by_cases ha : xs.all isNatD = true
  · rw [ha, Bool.true_and] at h ⊢
    rw [twN_eq]
    by_cases he : xs.isEmpty = true
    · have : xs = [] := List.isEmpty_iff.mp he
      subst this
      simp
    · have he : xs.isEmpty = false := by simpa using he
      rw [he, Bool.not_false, Bool.true_and] at h
      rw [h]
      simp
  · rw [show xs.all isNatD = false by simpa using ha, Bool.false_and]
theorem told_yes (h : isLvl (.tuple xs) = true) : xs ≠ [] ∧ xs = nats (xs.map natD) ∧ isTold s (.tuple [.tuple xs, .tuple ys]) = (decide ((xs.map natD).length = ys.length + 1) && (decide ((xs.map natD).getD 0 0 = 0) && (decide (lastN (xs.map natD) = 0) && (List.range ys.length).all (okC s (xs.map natD) ys)))) := by
  simp only [isLvl, Bool.and_eq_true, Bool.not_eq_true'] at h
  obtain ⟨h1, h2, h3⟩ := h
  refine ⟨fun e => (by rw [e] at h1; cases h1), all_nats h2, ?_⟩
  show (xs.all isNatD && (ys.all isNatD && twN s (xs.map natD) (ys.map natD))) = _
  rw [h2, Bool.true_and, twN_eq, h3, Bool.true_and, ← okC_all]
  rw [List.length_map (f := natD) (as := ys)]
  cases decide ((xs.map natD).length = ys.length + 1) <;> cases decide ((xs.map natD).getD 0 0 = 0) <;> cases decide (lastN (xs.map natD) = 0) <;> cases ys.all isNatD <;> simp
theorem tld_run (C : ChsC F i_step_choices) (L : IsLvl F i_is_level_way) (hd : Tm (2 ^ 30) 50 10000 d) (h : kk false (.bool (isTold s d))) : run F f_is_told_way [s.d, d] kk := by
  unfold f_is_told_way b_is_told_way
  cases d with
  | tuple zs =>
    have tt : ∀ zs : List D, ¬ isTupD (.tuple zs) = false := fun _ e => by cases e
    match zs, hd, h with
    | [], hd, h =>
      rw [told_len (by simp)] at h
      try trivial
      rw [if_neg (tt _), if_pos (by simp)]
      exact h
    | [a], hd, h =>
      rw [told_len (by simp)] at h
      try trivial
      rw [if_neg (tt _), if_pos (by simp)]
      exact h
    | a :: b :: c :: r, hd, h =>
      rw [told_len (by simp)] at h
      try trivial
      rw [if_neg (tt _), if_pos (by omega)]
      exact h
    | [a, b], hd, h =>
      have ha : Tm (2 ^ 30) 50 10000 a := hd.tup0.mem (by simp)
      try trivial
      rw [if_neg (tt _), if_neg (by simp)]
      refine L a _ ha ?_
      try trivial
      by_cases hl : isLvl a = true
      · rw [if_neg (by simp [hl])]
        cases a with
        | tuple xs =>
          try trivial
          cases b with
          | tuple ys =>
            obtain ⟨e1, e2, e3⟩ := told_yes (s := s) (ys := ys) hl
            rw [e3] at h
            generalize hw : xs.map natD = w at h e2
            have hlt : ∀ x ∈ w, x < 2 ^ 30 := fun x hx => by
              have : PyData.int (x : Nat) ∈ xs := by rw [e2]; exact List.mem_map.mpr ⟨x, hx, rfl⟩
              have := (ha.tup0.mem this).t
              simpa [tame] using this
            have hne : w ≠ [] := fun e => e1 (by rw [e2, e]; rfl)
            have hpos : 0 < w.length := List.length_pos_iff.mpr hne
            subst e2
            rw [if_neg (tt _)]
            unfold b_is_told_way_t1
            try trivial
            refine at_nats (i := 0) rfl hpos ?_
            try trivial
            by_cases h0 : w.getD 0 0 = 0
            · rw [if_neg (by omega)]
              try trivial
              refine getLast_at hne ?_
              try trivial
              by_cases h1 : lastN w = 0
              · rw [if_neg (by omega)]
                try trivial
                by_cases h2 : w.length = ys.length + 1
                · rw [if_neg (by rw [nats_len]; omega)]
                  rw [decide_eq_true h0, decide_eq_true h1, decide_eq_true h2, Bool.true_and, Bool.true_and, Bool.true_and] at h
                  exact tld_t2 C hlt h2 h
                · rw [if_pos (by rw [nats_len]; omega)]
                  rw [decide_eq_false h2, Bool.false_and] at h
                  exact h
              · rw [if_pos (by omega)]
                rw [decide_eq_false h1, Bool.false_and, Bool.and_false, Bool.and_false] at h
                exact h
            · rw [if_pos (by omega)]
              rw [decide_eq_false h0, Bool.false_and, Bool.and_false] at h
              exact h
          | _ => (try trivial) <;> exact h
        | _ => cases hl
      · have hl : isLvl a = false := by simpa using hl
        rw [if_pos hl]
        have : isTold s (.tuple [a, b]) = false := by
          cases a with
          | tuple xs => cases b with
            | tuple ys => exact told_no hl
            | _ => rfl
          | _ => rfl
        rw [this] at h
        exact h
  | _ => (try trivial) <;> exact h
end
end Ev
/-! Det57: what the defs do (printed by gen/dat.py from lib). -/
namespace Ev
open PySem L2
local macro_rules | `(tactic| trivial) => `(tactic| ((try simp only [run, frame, List.map, List.replicate, Nat.reduceAdd, Nat.reduceSub, List.length_cons, List.length_nil, Bool.false_eq_true, if_false, if_true, List.nil_append, List.cons_append, true_and]); simp only [↓it_tF, ↓bd_fr, ↓idx_fr0, ↓idx_fr1, ↓i_tF, ↓i_lF, ↓u_ltF, ↓u_llF, ↓at2_0, ↓at2_1, fr0, fr1, ↓w_k, ↓w_vf0, ↓w_vf1, ↓w_vf2, ↓w_vf3, ↓w_vf4, ↓w_vf5, ↓w_vf6, ↓w_vf7, ↓w_vf8, ↓w_vf9, ↓w_vf10, ↓w_vf11, ↓w_vf12, ↓w_vf13, ↓w_vf14, ↓w_vf15, ↓w_vf16, ↓w_vf17, ↓w_vf18, ↓w_vf19, ↓w_vf20, ↓w_vf21, ↓w_vf22, ↓w_vf23, ↓w_vo0, ↓w_vo1, ↓w_vo2, ↓w_vo3, ↓w_vo4, ↓w_vo5, ↓w_vo6, ↓w_vo7, ↓w_vo8, ↓w_vo9, ↓w_vo10, ↓w_vo11, ↓w_vo12, ↓w_vo13, ↓w_vo14, ↓w_vo15, ↓w_vo16, ↓w_vo17, ↓w_vo18, ↓w_vo19, ↓w_vo20, ↓w_vo21, ↓w_vo22, ↓w_vo23, ↓w_mf0, ↓w_mf1, ↓w_mf2, ↓w_mf3, ↓w_mf4, ↓w_mf5, ↓w_mf6, ↓w_mf7, ↓w_mf8, ↓w_mf9, ↓w_mf10, ↓w_mf11, ↓w_mf12, ↓w_mf13, ↓w_mf14, ↓w_mf15, ↓w_mf16, ↓w_mf17, ↓w_mf18, ↓w_mf19, ↓w_mf20, ↓w_mf21, ↓w_mf22, ↓w_mf23, ↓w_mo0, ↓w_mo1, ↓w_mo2, ↓w_mo3, ↓w_mo4, ↓w_mo5, ↓w_mo6, ↓w_mo7, ↓w_mo8, ↓w_mo9, ↓w_mo10, ↓w_mo11, ↓w_mo12, ↓w_mo13, ↓w_mo14, ↓w_mo15, ↓w_mo16, ↓w_mo17, ↓w_mo18, ↓w_mo19, ↓w_mo20, ↓w_mo21, ↓w_mo22, ↓w_mo23, ↓w_op, ↓w_neg, ↓w_cmp, ↓w_ch2, ↓w_isN, ↓w_notN, ↓w_isB, ↓w_notB, ↓w_and, ↓w_or, ↓w_not, ↓w_ite, ↓w_nil, ↓w_cons, ↓w_star, ↓w_tup, ↓w_lst, ↓w_idx, ↓w_slc, ↓w_revL, ↓w_b1, ↓w_b2max2, ↓w_b2min2, ↓w_b2gcd, ↓w_b2indexL, ↓w_b2indexT, ↓w_dic, ↓w_dget, ↓w_dgetd, ↓w_dIn, ↓w_slcT, ↓w_lrngT, ↓w_lrngF, ↓w_pop0, ↓w_pop1, ↓w_call, ↓w_comp, ↓s_skip, ↓s_seq, ↓s_set, ↓s_unp, ↓s_par, ↓p_nil, ↓p_cons, ↓h_fz, ↓h_fr, ↓h_bw, ↓pe_nil, ↓pe_cons, ↓sl_fz, ↓sl_fr, ↓put0, ↓put1, ↓put2, ↓put3, ↓put4, ↓put5, ↓put6, ↓put7, ↓put8, ↓put9, ↓put10, ↓put11, ↓put12, ↓put13, ↓put14, ↓put15, ↓put16, ↓put17, ↓put18, ↓put19, ↓put20, ↓put21, ↓put22, ↓put23, ↓s_app, ↓s_ext, ↓s_popS, ↓s_sto, ↓s_sto2, ↓s_ifs, ↓s_for, ↓s_whl, ↓s_ret, ↓s_brk, ↓s_nev, ↓r_fz, ↓r_fr, ↓r_bo0, ↓r_bo1, ↓r_bo2, ↓r_bo3, ↓r_bo4, ↓r_bo5, ↓r_bo6, ↓r_bo7, ↓r_bo8, ↓r_bo9, ↓r_bo10, ↓r_bo11, ↓r_bo12, ↓r_bo13, ↓r_bo14, ↓r_bo15, ↓r_bo16, ↓r_bo17, ↓r_bo18, ↓r_bo19, ↓r_bo20, ↓r_bo21, ↓r_bo22, ↓r_bo23, ↓r_bf0, ↓r_bf1, ↓r_bf2, ↓r_bf3, ↓r_bf4, ↓r_bf5, ↓r_bf6, ↓r_bf7, ↓r_bf8, ↓r_bf9, ↓r_bf10, ↓r_bf11, ↓r_bf12, ↓r_bf13, ↓r_bf14, ↓r_bf15, ↓r_bf16, ↓r_bf17, ↓r_bf18, ↓r_bf19, ↓r_bf20, ↓r_bf21, ↓r_bf22, ↓r_bf23, ↓g_fz, ↓g_fr, ↓g_bo0, ↓g_bo1, ↓g_bo2, ↓g_bo3, ↓g_bo4, ↓g_bo5, ↓g_bo6, ↓g_bo7, ↓g_bo8, ↓g_bo9, ↓g_bo10, ↓g_bo11, ↓g_bo12, ↓g_bo13, ↓g_bo14, ↓g_bo15, ↓g_bo16, ↓g_bo17, ↓g_bo18, ↓g_bo19, ↓g_bo20, ↓g_bo21, ↓g_bo22, ↓g_bo23, ↓g_bf0, ↓g_bf1, ↓g_bf2, ↓g_bf3, ↓g_bf4, ↓g_bf5, ↓g_bf6, ↓g_bf7, ↓g_bf8, ↓g_bf9, ↓g_bf10, ↓g_bf11, ↓g_bf12, ↓g_bf13, ↓g_bf14, ↓g_bf15, ↓g_bf16, ↓g_bf17, ↓g_bf18, ↓g_bf19, ↓g_bf20, ↓g_bf21, ↓g_bf22, ↓g_bf23, ↓o_fz, ↓o_fr, ↓o_bo0, ↓o_bo1, ↓o_bo2, ↓o_bo3, ↓o_bo4, ↓o_bo5, ↓o_bo6, ↓o_bo7, ↓o_bo8, ↓o_bo9, ↓o_bo10, ↓o_bo11, ↓o_bo12, ↓o_bo13, ↓o_bo14, ↓o_bo15, ↓o_bo16, ↓o_bo17, ↓o_bo18, ↓o_bo19, ↓o_bo20, ↓o_bo21, ↓o_bo22, ↓o_bo23, ↓o_bf0, ↓o_bf1, ↓o_bf2, ↓o_bf3, ↓o_bf4, ↓o_bf5, ↓o_bf6, ↓o_bf7, ↓o_bf8, ↓o_bf9, ↓o_bf10, ↓o_bf11, ↓o_bf12, ↓o_bf13, ↓o_bf14, ↓o_bf15, ↓o_bf16, ↓o_bf17, ↓o_bf18, ↓o_bf19, ↓o_bf20, ↓o_bf21, ↓o_bf22, ↓o_bf23, ↓st_f0, ↓st_f1, ↓st_f2, ↓st_f3, ↓st_f4, ↓st_f5, ↓st_f6, ↓st_f7, ↓st_f8, ↓st_f9, ↓st_f10, ↓st_f11, ↓st_f12, ↓st_f13, ↓st_f14, ↓st_f15, ↓st_f16, ↓st_f17, ↓st_f18, ↓st_f19, ↓st_f20, ↓st_f21, ↓st_f22, ↓st_f23, ↓st_o0, ↓st_o1, ↓st_o2, ↓st_o3, ↓st_o4, ↓st_o5, ↓st_o6, ↓st_o7, ↓st_o8, ↓st_o9, ↓st_o10, ↓st_o11, ↓st_o12, ↓st_o13, ↓st_o14, ↓st_o15, ↓st_o16, ↓st_o17, ↓st_o18, ↓st_o19, ↓st_o20, ↓st_o21, ↓st_o22, ↓st_o23, ↓sb0, ↓sb1, ↓sb2, ↓sb3, ↓sb4, ↓sb5, ↓sb6, ↓sb7, ↓sb8, ↓sb9, ↓sb10, ↓sb11, ↓sb12, ↓sb13, ↓sb14, ↓sb15, ↓sb16, ↓sb17, ↓sb18, ↓sb19, ↓sb20, ↓sb21, ↓sb22, ↓sb23, ↓bd0, ↓bd1, ↓bd2, ↓bd3, ↓bd4, ↓bd5, ↓bd6, ↓bd7, ↓bd8, ↓bd9, ↓bd10, ↓bd11, ↓bd12, ↓bd13, ↓bd14, ↓bd15, ↓bd16, ↓bd17, ↓bd18, ↓bd19, ↓bd20, ↓bd21, ↓bd22, ↓bd23, ↓bd_cons, ↓bd_nil, ↓bd_t, ↓ow0, ↓ow1, ↓ow2, ↓ow3, ↓ow4, ↓ow5, ↓ow6, ↓ow7, ↓ow8, ↓ow9, ↓ow10, ↓ow11, ↓ow12, ↓ow13, ↓ow14, ↓ow15, ↓ow16, ↓ow17, ↓ow18, ↓ow19, ↓ow20, ↓ow21, ↓ow22, ↓ow23, ↓ap0, ↓ap1, ↓ap2, ↓ap3, ↓ap4, ↓ap5, ↓ap6, ↓ap7, ↓ap8, ↓ap9, ↓ap10, ↓ap11, ↓ap12, ↓ap13, ↓ap14, ↓ap15, ↓ap16, ↓ap17, ↓ap18, ↓ap19, ↓ap20, ↓ap21, ↓ap22, ↓ap23, ↓ex0, ↓ex1, ↓ex2, ↓ex3, ↓ex4, ↓ex5, ↓ex6, ↓ex7, ↓ex8, ↓ex9, ↓ex10, ↓ex11, ↓ex12, ↓ex13, ↓ex14, ↓ex15, ↓ex16, ↓ex17, ↓ex18, ↓ex19, ↓ex20, ↓ex21, ↓ex22, ↓ex23, ↓exT0, ↓exT1, ↓exT2, ↓exT3, ↓exT4, ↓exT5, ↓exT6, ↓exT7, ↓exT8, ↓exT9, ↓exT10, ↓exT11, ↓exT12, ↓exT13, ↓exT14, ↓exT15, ↓exT16, ↓exT17, ↓exT18, ↓exT19, ↓exT20, ↓exT21, ↓exT22, ↓exT23, ↓so0, ↓so1, ↓so2, ↓so3, ↓so4, ↓so5, ↓so6, ↓so7, ↓so8, ↓so9, ↓so10, ↓so11, ↓so12, ↓so13, ↓so14, ↓so15, ↓so16, ↓so17, ↓so18, ↓so19, ↓so20, ↓so21, ↓so22, ↓so23, ↓pp0, ↓pp1, ↓pp2, ↓pp3, ↓pp4, ↓pp5, ↓pp6, ↓pp7, ↓pp8, ↓pp9, ↓pp10, ↓pp11, ↓pp12, ↓pp13, ↓pp14, ↓pp15, ↓pp16, ↓pp17, ↓pp18, ↓pp19, ↓pp20, ↓pp21, ↓pp22, ↓pp23, ↓pq0, ↓pq1, ↓pq2, ↓pq3, ↓pq4, ↓pq5, ↓pq6, ↓pq7, ↓pq8, ↓pq9, ↓pq10, ↓pq11, ↓pq12, ↓pq13, ↓pq14, ↓pq15, ↓pq16, ↓pq17, ↓pq18, ↓pq19, ↓pq20, ↓pq21, ↓pq22, ↓pq23, ↓ps0, ↓ps1, ↓ps2, ↓ps3, ↓ps4, ↓ps5, ↓ps6, ↓ps7, ↓ps8, ↓ps9, ↓ps10, ↓ps11, ↓ps12, ↓ps13, ↓ps14, ↓ps15, ↓ps16, ↓ps17, ↓ps18, ↓ps19, ↓ps20, ↓ps21, ↓ps22, ↓ps23, ↓sr0, ↓sr1, ↓sr2, ↓sr3, ↓sr4, ↓sr5, ↓sr6, ↓sr7, ↓sr8, ↓sr9, ↓sr10, ↓sr11, ↓sr12, ↓sr13, ↓sr14, ↓sr15, ↓sr16, ↓sr17, ↓sr18, ↓sr19, ↓sr20, ↓sr21, ↓sr22, ↓sr23, ↓sr_no, ↓rt_f, ↓rt_t, ↓t_b, ↓b_addI, ↓b_subI, ↓b_mulI, ↓b_fdivI, ↓b_modI, ↓b_addL, ↓b_addT, ↓b_addS, ↓b_mulL, ↓b_mulT, ↓c_eqI, ↓c_neI, ↓c_ltI, ↓c_leI, ↓c_gtI, ↓c_geI, ↓c_eqS, ↓c_neS, ↓c_eq, ↓c_ne, ↓u_lenl, ↓u_lent, ↓u_tupLl, ↓u_tupTt, ↓u_lstQl, ↓u_lstQt, ↓u_intIi, ↓u_intBb, ↓u_absi, ↓u_repr, ↓u_isT, ↓u_isI, ↓u_isB, ↓u_isS, ↓u_all, ↓u_sum, ↓u_maxL, ↓u_minL, ↓u_sumT, ↓u_maxT, ↓u_minT, ↓u_sortDl, ↓u_sortDt, ↓u_max2, ↓u_min2, ↓u_gcd, ↓ix_l, ↓ix_t, ↓id_l0, ↓id_l1, ↓id_l2, ↓id_l3, ↓id_l4, ↓id_l5, ↓id_l6, ↓id_l7, ↓id_l8, ↓id_l9, ↓id_l10, ↓id_l11, ↓id_l12, ↓id_l13, ↓id_l14, ↓id_l15, ↓id_l16, ↓id_l17, ↓id_l18, ↓id_l19, ↓id_l20, ↓id_l21, ↓id_l22, ↓id_l23, ↓id_m0, ↓id_m1, ↓id_m2, ↓id_m3, ↓id_m4, ↓id_m5, ↓id_m6, ↓id_m7, ↓id_m8, ↓id_m9, ↓id_m10, ↓id_m11, ↓id_m12, ↓id_m13, ↓id_m14, ↓id_m15, ↓id_m16, ↓id_m17, ↓id_m18, ↓id_m19, ↓id_m20, ↓id_m21, ↓id_m22, ↓id_m23, ↓id_f, ↓id_r, ↓id_t, ↓idd0, ↓idd1, ↓idd2, ↓idd3, ↓idd4, ↓idd5, ↓idd6, ↓idd7, ↓idd8, ↓idd9, ↓idd10, ↓idd11, ↓idd12, ↓idd13, ↓idd14, ↓idd15, ↓idd16, ↓idd17, ↓idd18, ↓idd19, ↓idd20, ↓idd21, ↓idd22, ↓idd23, ↓idd_f, ↓idd_r, ↓dg, ↓dgd, ↓di, ↓pk, ↓i_l, ↓i_t, ↓sc_l, ↓sc_t, ↓pt_t, ↓pt_f, ↓it_l, ↓it_t, ↓ro1, ↓ro2, ↓ro3, ↓k_lst, ↓k_tup, ↓k_r1, ↓k_r2, ↓k_zl, ↓k_zt, ↓k_el, ↓k_et, ↓ex_fzT, ↓ex_fzI, ↓ex_fzB, ↓ex_T, ↓ex_L, ↓ex_some, ↓reduceIte, List.length_cons, List.length_nil, Nat.reduceAdd, Nat.reduceSub, true_and, and_true, List.nil_append, List.cons_append, decide_eq_true_eq, Bool.false_eq_true, List.append_nil, Bool.not_true, Bool.not_false, Bool.not_eq_true', decide_eq_false_iff_not]))
/-! which data are told ways: the law's look -/
section
variable {F : Fns} {d : D} {s : So} {xs ys : List D} {w c : List Nat} {kk : Bool → D → Prop} {s1 s2 s3 s4 s5 s6 : Sl}
theorem lint_run (h : kk false (.bool (isIntB d))) : run F f__law_is_int [d] kk := by
  unfold f__law_is_int b__law_is_int
  cases d <;> (try trivial) <;> exact h
theorem ltld_t3 (C : LchC F i__law_choices) (hw : ∀ x ∈ w, x < 2 ^ 30) (hl : w.length = c.length + 1) (h : kk false (.bool ((List.range c.length).all fun i => stepB w i && chB s w c i))) :
    wS F b__law_is_told_t3 [.fz s.d, s1, .fz (tN w), .fz (tN c), s4, s5, s6] ⟨fun _ => kk false .none, kk, fun _ => False⟩ := by
  unfold b__law_is_told_t3
  try trivial
  refine loop_inv (fun i e => (∀ j, j < i → (stepB w j && chB s w c j) = true) ∧ ∃ s5 s6, e = [.fz s.d, s1, .fz (tN w), .fz (tN c), s4, s5, s6]) ⟨fun j hj => absurd hj (Nat.not_lt_zero _), _, _, rfl⟩ ?_ ?_
  · rintro i d e nn hd ⟨hi, s5, s6, rfl⟩ hnn
    obtain ⟨x, hx, rfl⟩ := enum_at hd
    obtain ⟨hil, rfl⟩ := nats_get hx
    have bad : (stepB w i && chB s w c i) = false → kk false (.bool false) := fun hb => by
      have : (List.range c.length).all (fun i => stepB w i && chB s w c i) = false := by
        rw [List.all_eq_false]
        exact ⟨i, List.mem_range.mpr hil, by rw [hb]; decide⟩
      rw [this] at h
      exact h
    unfold b__law_is_told_l4
    try trivial
    refine at_nats (i := i + 1) (by omega) (by omega) ?_
    try trivial
    refine at_nats (i := i) rfl (by omega) ?_
    try trivial
    by_cases hs : stepB w i = true
    · have hsp := of_decide_eq_true hs
      rw [if_neg (by split <;> omega)]
      try trivial
      refine at_nats (i := i) rfl (by omega) ?_
      try trivial
      refine at_nats (i := i + 1) (by omega) (by omega) ?_
      try trivial
      refine C s _ _ _ (get_lt hw) (get_lt hw) ?_
      try trivial
      rw [lat_of hsp]
      by_cases hc : c.getD i 0 < chs s (w.getD i 0) (w.getD (i + 1) 0)
      · rw [if_neg (by omega)]
        exact hnn _ ⟨fun j hj => by
            rcases Nat.lt_succ_iff_lt_or_eq.mp hj with hj | rfl
            · exact hi j hj
            · rw [hs]; exact decide_eq_true hc, _, _, rfl⟩
      · rw [if_pos (by omega)]
        exact bad (by rw [hs]; exact decide_eq_false hc)
    · have hs' : ¬ (w.getD (i + 1) 0 ≤ w.getD i 0 + 1 ∧ w.getD i 0 ≤ w.getD (i + 1) 0 + 1) := fun q => hs (decide_eq_true q)
      rw [if_pos (by split <;> omega)]
      try trivial
      exact bad (by rw [show stepB w i = false by simpa using hs]; rfl)
  · rintro e ⟨hi, s5, s6, rfl⟩
    rw [enum_len, nats_len] at hi
    unfold b__law_is_told_t5
    try trivial
    have : (List.range c.length).all (fun i => stepB w i && chB s w c i) = true := List.all_eq_true.mpr fun i hi' => hi i (List.mem_range.mp hi')
    rw [this] at h
    exact h
theorem ltld_t2 (C : LchC F i__law_choices) (I : LIsInt F i__law_is_int) (hx : Tm (2 ^ 30) 50 10000 (.tuple xs)) (hy : Tm (2 ^ 30) 50 10000 (.tuple ys)) (hl : xs.length = ys.length + 1) (h : kk false (.bool (isTold s (.tuple [.tuple xs, .tuple ys])))) :
    wS F b__law_is_told_t2 [.fz s.d, s1, .fz (.tuple xs), .fz (.tuple ys), s4, s5, s6] ⟨fun _ => kk false .none, kk, fun _ => False⟩ := by
  replace h : kk false (.bool (xs.all isNatD && (ys.all isNatD && twN s (xs.map natD) (ys.map natD)))) := h
  have tx := hx.tup0
  have ty := hy.tup0
  have l1 : xs.length ≤ 10000 := Nat.le_trans len_bulk tx.bk
  have l2 : ys.length ≤ 10000 := Nat.le_trans len_bulk ty.bk
  unfold b__law_is_told_t2
  try trivial
  refine ⟨by unfold Fits; omega, ?_⟩
  rw [← List.map_id (xs ++ ys)]
  refine comp_keep (fun e => ∃ s4, e = [.fz s.d, s1, .fz (.tuple xs), .fz (.tuple ys), s4, s5, s6]) (fun d => !isNatD d) id ⟨_, rfl⟩ ?_ ?_
  · rintro d e nn hd ⟨s4, rfl⟩ hnn
    simp only [turnC, wipeE, List.set_cons_succ, List.set_cons_zero, id]
    have := hnn _ ⟨.fz d, rfl⟩
    try trivial
    refine I d _ ?_
    cases d with
    | int i =>
      simp only [isIntB]
      try trivial
      by_cases hi : 0 ≤ i
      · rw [show isNatD (.int i) = true by simpa [isNatD] using hi, if_neg (by simp)] at this
        rw [if_neg (by simp), if_neg (by omega)]
        exact this
      · rw [show isNatD (.int i) = false by simpa [isNatD] using hi, if_pos (by simp)] at this
        rw [if_neg (by simp), if_pos (by omega)]
        exact this
    | _ => (simp only [isIntB]) <;> (try trivial) <;> exact this
  · rintro e ⟨s4, rfl⟩
    simp only [backE, List.getD_cons_succ, List.getD_cons_zero, List.set_cons_succ, List.set_cons_zero]
    try trivial
    have tf : Tms (2 ^ 30) 50 20000 (((xs ++ ys).filter fun d => !isNatD d).map id) := by
      rw [List.map_id]
      exact (tx.app ty).sub List.filter_sublist
    refine ⟨fits0, tf.lst.shp (by decide) (by decide), shp_nilL, ?_⟩
    rw [eqv_nilL, List.map_id]
    by_cases ha : xs.all isNatD = true
    · by_cases hb : ys.all isNatD = true
      · have hf : ((xs ++ ys).filter fun d => !isNatD d).isEmpty = true := by
          rw [List.isEmpty_iff, List.filter_eq_nil_iff]
          intro d hd
          rcases List.mem_append.mp hd with hd | hd
          · rw [List.all_eq_true.mp ha d hd]; decide
          · rw [List.all_eq_true.mp hb d hd]; decide
        rw [hf, if_neg (by simp)]
        rw [ha, hb, Bool.true_and, Bool.true_and] at h
        have e1 := all_nats ha
        have e2 := all_nats hb
        have e3 := List.length_map (f := natD) (as := xs)
        have e4 := List.length_map (f := natD) (as := ys)
        generalize hw : xs.map natD = w at h e1 e3
        generalize hc : ys.map natD = c at h e2 e4
        have hlt : ∀ x ∈ w, x < 2 ^ 30 := fun x hx => by
          have : PyData.int (x : Nat) ∈ xs := by rw [e1]; exact List.mem_map.mpr ⟨x, hx, rfl⟩
          have := (tx.mem this).t
          simpa [tame] using this
        have hlw : w.length = c.length + 1 := by omega
        have hne : w ≠ [] := fun e => by rw [e] at hlw; simp at hlw
        subst e1 e2
        try trivial
        refine at_nats (i := 0) rfl (by omega) ?_
        try trivial
        unfold twN at h
        rw [decide_eq_true hlw, Bool.true_and] at h
        by_cases h0 : w.getD 0 0 = 0
        · rw [if_neg (by omega)]
          try trivial
          refine getLast_at hne ?_
          try trivial
          rw [decide_eq_true h0, Bool.true_and] at h
          by_cases h1 : lastN w = 0
          · rw [if_neg (by omega)]
            rw [decide_eq_true h1, Bool.true_and] at h
            exact ltld_t3 C hlt hlw h
          · rw [if_pos (by omega)]
            rw [decide_eq_false h1, Bool.false_and] at h
            exact h
        · rw [if_pos (by omega)]
          rw [decide_eq_false h0, Bool.false_and] at h
          exact h
      · have hb : ys.all isNatD = false := by simpa using hb
        obtain ⟨d, hd, hn⟩ := List.all_eq_false.mp hb
        have hf : ((xs ++ ys).filter fun d => !isNatD d).isEmpty = false := by
          rw [List.isEmpty_eq_false_iff]
          intro e
          have := List.filter_eq_nil_iff.mp e d (List.mem_append_right _ hd)
          simp at this
          exact hn this
        rw [hf, if_pos (by simp)]
        rw [hb, Bool.false_and, Bool.and_false] at h
        (try trivial) <;> exact h
    · have ha : xs.all isNatD = false := by simpa using ha
      obtain ⟨d, hd, hn⟩ := List.all_eq_false.mp ha
      have hf : ((xs ++ ys).filter fun d => !isNatD d).isEmpty = false := by
        rw [List.isEmpty_eq_false_iff]
        intro e
        have := List.filter_eq_nil_iff.mp e d (List.mem_append_left _ hd)
        simp at this
        exact hn this
      rw [hf, if_pos (by simp)]
      rw [ha, Bool.false_and] at h
      (try trivial) <;> exact h
theorem told_head {a b : D} (h : ∀ xs, a ≠ .tuple xs) : isTold s (.tuple [a, b]) = false := by
  cases a with
  | tuple xs => exact absurd rfl (h xs)
  | _ => cases b <;> rfl
theorem ltld_run (C : LchC F i__law_choices) (I : LIsInt F i__law_is_int) (hd : Tm (2 ^ 30) 50 10000 d) (h : kk false (.bool (isTold s d))) : run F f__law_is_told [s.d, d] kk := by
  unfold f__law_is_told b__law_is_told
  cases d with
  | tuple zs =>
    have tt : ∀ zs : List D, ¬ isTupD (.tuple zs) = false := fun _ e => by cases e
    match zs, hd, h with
    | [], hd, h =>
      rw [told_len (by simp)] at h
      try trivial
      rw [if_neg (tt _), if_pos (by simp)]
      exact h
    | [a], hd, h =>
      rw [told_len (by simp)] at h
      try trivial
      rw [if_neg (tt _), if_pos (by simp)]
      exact h
    | a :: b :: c :: r, hd, h =>
      rw [told_len (by simp)] at h
      try trivial
      rw [if_neg (tt _), if_pos (by omega)]
      exact h
    | [a, b], hd, h =>
      have ha : Tm (2 ^ 30) 50 10000 a := hd.tup0.mem (by simp)
      have hb : Tm (2 ^ 30) 50 10000 b := hd.tup0.mem (by simp)
      try trivial
      rw [if_neg (tt _), if_neg (by simp)]
      unfold b__law_is_told_t1
      try trivial
      cases a with
      | tuple xs =>
        rw [if_neg (tt _)]
        cases b with
        | tuple ys =>
          try trivial
          rw [if_neg (tt _)]
          by_cases hl : xs.length = ys.length + 1
          · rw [if_neg (by omega)]
            exact ltld_t2 C I ha hb hl h
          · rw [if_pos (by omega)]
            have : isTold s (.tuple [.tuple xs, .tuple ys]) = false := by
              show (xs.all isNatD && (ys.all isNatD && twN s (xs.map natD) (ys.map natD))) = false
              unfold twN
              rw [List.length_map, List.length_map, decide_eq_false hl]
              simp
            rw [this] at h
            exact h
        | _ => (try trivial) <;> exact h
      | _ =>
        rw [told_head (by intro xs e; cases e)] at h
        (try trivial) <;> exact h
  | _ => (try trivial) <;> exact h
end
end Ev
set_option pp.maxSteps 500
/-! Dft57: what the defs do (printed by gen/dat.py from lib). -/
namespace Ev
open PySem L2
local macro_rules | `(tactic| trivial) => `(tactic| ((try simp only [run, frame, List.map, List.replicate, Nat.reduceAdd, Nat.reduceSub, List.length_cons, List.length_nil, Bool.false_eq_true, if_false, if_true, List.nil_append, List.cons_append, true_and]); simp only [↓it_tF, ↓bd_fr, ↓idx_fr0, ↓idx_fr1, ↓i_tF, ↓i_lF, ↓u_ltF, ↓u_llF, ↓at2_0, ↓at2_1, fr0, fr1, ↓w_k, ↓w_vf0, ↓w_vf1, ↓w_vf2, ↓w_vf3, ↓w_vf4, ↓w_vf5, ↓w_vf6, ↓w_vf7, ↓w_vf8, ↓w_vf9, ↓w_vf10, ↓w_vf11, ↓w_vf12, ↓w_vf13, ↓w_vf14, ↓w_vf15, ↓w_vf16, ↓w_vf17, ↓w_vf18, ↓w_vf19, ↓w_vf20, ↓w_vf21, ↓w_vf22, ↓w_vf23, ↓w_vo0, ↓w_vo1, ↓w_vo2, ↓w_vo3, ↓w_vo4, ↓w_vo5, ↓w_vo6, ↓w_vo7, ↓w_vo8, ↓w_vo9, ↓w_vo10, ↓w_vo11, ↓w_vo12, ↓w_vo13, ↓w_vo14, ↓w_vo15, ↓w_vo16, ↓w_vo17, ↓w_vo18, ↓w_vo19, ↓w_vo20, ↓w_vo21, ↓w_vo22, ↓w_vo23, ↓w_mf0, ↓w_mf1, ↓w_mf2, ↓w_mf3, ↓w_mf4, ↓w_mf5, ↓w_mf6, ↓w_mf7, ↓w_mf8, ↓w_mf9, ↓w_mf10, ↓w_mf11, ↓w_mf12, ↓w_mf13, ↓w_mf14, ↓w_mf15, ↓w_mf16, ↓w_mf17, ↓w_mf18, ↓w_mf19, ↓w_mf20, ↓w_mf21, ↓w_mf22, ↓w_mf23, ↓w_mo0, ↓w_mo1, ↓w_mo2, ↓w_mo3, ↓w_mo4, ↓w_mo5, ↓w_mo6, ↓w_mo7, ↓w_mo8, ↓w_mo9, ↓w_mo10, ↓w_mo11, ↓w_mo12, ↓w_mo13, ↓w_mo14, ↓w_mo15, ↓w_mo16, ↓w_mo17, ↓w_mo18, ↓w_mo19, ↓w_mo20, ↓w_mo21, ↓w_mo22, ↓w_mo23, ↓w_op, ↓w_neg, ↓w_cmp, ↓w_ch2, ↓w_isN, ↓w_notN, ↓w_isB, ↓w_notB, ↓w_and, ↓w_or, ↓w_not, ↓w_ite, ↓w_nil, ↓w_cons, ↓w_star, ↓w_tup, ↓w_lst, ↓w_idx, ↓w_slc, ↓w_revL, ↓w_b1, ↓w_b2max2, ↓w_b2min2, ↓w_b2gcd, ↓w_b2indexL, ↓w_b2indexT, ↓w_dic, ↓w_dget, ↓w_dgetd, ↓w_dIn, ↓w_slcT, ↓w_lrngT, ↓w_lrngF, ↓w_pop0, ↓w_pop1, ↓w_call, ↓w_comp, ↓s_skip, ↓s_seq, ↓s_set, ↓s_unp, ↓s_par, ↓p_nil, ↓p_cons, ↓h_fz, ↓h_fr, ↓h_bw, ↓pe_nil, ↓pe_cons, ↓sl_fz, ↓sl_fr, ↓put0, ↓put1, ↓put2, ↓put3, ↓put4, ↓put5, ↓put6, ↓put7, ↓put8, ↓put9, ↓put10, ↓put11, ↓put12, ↓put13, ↓put14, ↓put15, ↓put16, ↓put17, ↓put18, ↓put19, ↓put20, ↓put21, ↓put22, ↓put23, ↓s_app, ↓s_ext, ↓s_popS, ↓s_sto, ↓s_sto2, ↓s_ifs, ↓s_for, ↓s_whl, ↓s_ret, ↓s_brk, ↓s_nev, ↓r_fz, ↓r_fr, ↓r_bo0, ↓r_bo1, ↓r_bo2, ↓r_bo3, ↓r_bo4, ↓r_bo5, ↓r_bo6, ↓r_bo7, ↓r_bo8, ↓r_bo9, ↓r_bo10, ↓r_bo11, ↓r_bo12, ↓r_bo13, ↓r_bo14, ↓r_bo15, ↓r_bo16, ↓r_bo17, ↓r_bo18, ↓r_bo19, ↓r_bo20, ↓r_bo21, ↓r_bo22, ↓r_bo23, ↓r_bf0, ↓r_bf1, ↓r_bf2, ↓r_bf3, ↓r_bf4, ↓r_bf5, ↓r_bf6, ↓r_bf7, ↓r_bf8, ↓r_bf9, ↓r_bf10, ↓r_bf11, ↓r_bf12, ↓r_bf13, ↓r_bf14, ↓r_bf15, ↓r_bf16, ↓r_bf17, ↓r_bf18, ↓r_bf19, ↓r_bf20, ↓r_bf21, ↓r_bf22, ↓r_bf23, ↓g_fz, ↓g_fr, ↓g_bo0, ↓g_bo1, ↓g_bo2, ↓g_bo3, ↓g_bo4, ↓g_bo5, ↓g_bo6, ↓g_bo7, ↓g_bo8, ↓g_bo9, ↓g_bo10, ↓g_bo11, ↓g_bo12, ↓g_bo13, ↓g_bo14, ↓g_bo15, ↓g_bo16, ↓g_bo17, ↓g_bo18, ↓g_bo19, ↓g_bo20, ↓g_bo21, ↓g_bo22, ↓g_bo23, ↓g_bf0, ↓g_bf1, ↓g_bf2, ↓g_bf3, ↓g_bf4, ↓g_bf5, ↓g_bf6, ↓g_bf7, ↓g_bf8, ↓g_bf9, ↓g_bf10, ↓g_bf11, ↓g_bf12, ↓g_bf13, ↓g_bf14, ↓g_bf15, ↓g_bf16, ↓g_bf17, ↓g_bf18, ↓g_bf19, ↓g_bf20, ↓g_bf21, ↓g_bf22, ↓g_bf23, ↓o_fz, ↓o_fr, ↓o_bo0, ↓o_bo1, ↓o_bo2, ↓o_bo3, ↓o_bo4, ↓o_bo5, ↓o_bo6, ↓o_bo7, ↓o_bo8, ↓o_bo9, ↓o_bo10, ↓o_bo11, ↓o_bo12, ↓o_bo13, ↓o_bo14, ↓o_bo15, ↓o_bo16, ↓o_bo17, ↓o_bo18, ↓o_bo19, ↓o_bo20, ↓o_bo21, ↓o_bo22, ↓o_bo23, ↓o_bf0, ↓o_bf1, ↓o_bf2, ↓o_bf3, ↓o_bf4, ↓o_bf5, ↓o_bf6, ↓o_bf7, ↓o_bf8, ↓o_bf9, ↓o_bf10, ↓o_bf11, ↓o_bf12, ↓o_bf13, ↓o_bf14, ↓o_bf15, ↓o_bf16, ↓o_bf17, ↓o_bf18, ↓o_bf19, ↓o_bf20, ↓o_bf21, ↓o_bf22, ↓o_bf23, ↓st_f0, ↓st_f1, ↓st_f2, ↓st_f3, ↓st_f4, ↓st_f5, ↓st_f6, ↓st_f7, ↓st_f8, ↓st_f9, ↓st_f10, ↓st_f11, ↓st_f12, ↓st_f13, ↓st_f14, ↓st_f15, ↓st_f16, ↓st_f17, ↓st_f18, ↓st_f19, ↓st_f20, ↓st_f21, ↓st_f22, ↓st_f23, ↓st_o0, ↓st_o1, ↓st_o2, ↓st_o3, ↓st_o4, ↓st_o5, ↓st_o6, ↓st_o7, ↓st_o8, ↓st_o9, ↓st_o10, ↓st_o11, ↓st_o12, ↓st_o13, ↓st_o14, ↓st_o15, ↓st_o16, ↓st_o17, ↓st_o18, ↓st_o19, ↓st_o20, ↓st_o21, ↓st_o22, ↓st_o23, ↓sb0, ↓sb1, ↓sb2, ↓sb3, ↓sb4, ↓sb5, ↓sb6, ↓sb7, ↓sb8, ↓sb9, ↓sb10, ↓sb11, ↓sb12, ↓sb13, ↓sb14, ↓sb15, ↓sb16, ↓sb17, ↓sb18, ↓sb19, ↓sb20, ↓sb21, ↓sb22, ↓sb23, ↓bd0, ↓bd1, ↓bd2, ↓bd3, ↓bd4, ↓bd5, ↓bd6, ↓bd7, ↓bd8, ↓bd9, ↓bd10, ↓bd11, ↓bd12, ↓bd13, ↓bd14, ↓bd15, ↓bd16, ↓bd17, ↓bd18, ↓bd19, ↓bd20, ↓bd21, ↓bd22, ↓bd23, ↓bd_cons, ↓bd_nil, ↓bd_t, ↓ow0, ↓ow1, ↓ow2, ↓ow3, ↓ow4, ↓ow5, ↓ow6, ↓ow7, ↓ow8, ↓ow9, ↓ow10, ↓ow11, ↓ow12, ↓ow13, ↓ow14, ↓ow15, ↓ow16, ↓ow17, ↓ow18, ↓ow19, ↓ow20, ↓ow21, ↓ow22, ↓ow23, ↓ap0, ↓ap1, ↓ap2, ↓ap3, ↓ap4, ↓ap5, ↓ap6, ↓ap7, ↓ap8, ↓ap9, ↓ap10, ↓ap11, ↓ap12, ↓ap13, ↓ap14, ↓ap15, ↓ap16, ↓ap17, ↓ap18, ↓ap19, ↓ap20, ↓ap21, ↓ap22, ↓ap23, ↓ex0, ↓ex1, ↓ex2, ↓ex3, ↓ex4, ↓ex5, ↓ex6, ↓ex7, ↓ex8, ↓ex9, ↓ex10, ↓ex11, ↓ex12, ↓ex13, ↓ex14, ↓ex15, ↓ex16, ↓ex17, ↓ex18, ↓ex19, ↓ex20, ↓ex21, ↓ex22, ↓ex23, ↓exT0, ↓exT1, ↓exT2, ↓exT3, ↓exT4, ↓exT5, ↓exT6, ↓exT7, ↓exT8, ↓exT9, ↓exT10, ↓exT11, ↓exT12, ↓exT13, ↓exT14, ↓exT15, ↓exT16, ↓exT17, ↓exT18, ↓exT19, ↓exT20, ↓exT21, ↓exT22, ↓exT23, ↓so0, ↓so1, ↓so2, ↓so3, ↓so4, ↓so5, ↓so6, ↓so7, ↓so8, ↓so9, ↓so10, ↓so11, ↓so12, ↓so13, ↓so14, ↓so15, ↓so16, ↓so17, ↓so18, ↓so19, ↓so20, ↓so21, ↓so22, ↓so23, ↓pp0, ↓pp1, ↓pp2, ↓pp3, ↓pp4, ↓pp5, ↓pp6, ↓pp7, ↓pp8, ↓pp9, ↓pp10, ↓pp11, ↓pp12, ↓pp13, ↓pp14, ↓pp15, ↓pp16, ↓pp17, ↓pp18, ↓pp19, ↓pp20, ↓pp21, ↓pp22, ↓pp23, ↓pq0, ↓pq1, ↓pq2, ↓pq3, ↓pq4, ↓pq5, ↓pq6, ↓pq7, ↓pq8, ↓pq9, ↓pq10, ↓pq11, ↓pq12, ↓pq13, ↓pq14, ↓pq15, ↓pq16, ↓pq17, ↓pq18, ↓pq19, ↓pq20, ↓pq21, ↓pq22, ↓pq23, ↓ps0, ↓ps1, ↓ps2, ↓ps3, ↓ps4, ↓ps5, ↓ps6, ↓ps7, ↓ps8, ↓ps9, ↓ps10, ↓ps11, ↓ps12, ↓ps13, ↓ps14, ↓ps15, ↓ps16, ↓ps17, ↓ps18, ↓ps19, ↓ps20, ↓ps21, ↓ps22, ↓ps23, ↓sr0, ↓sr1, ↓sr2, ↓sr3, ↓sr4, ↓sr5, ↓sr6, ↓sr7, ↓sr8, ↓sr9, ↓sr10, ↓sr11, ↓sr12, ↓sr13, ↓sr14, ↓sr15, ↓sr16, ↓sr17, ↓sr18, ↓sr19, ↓sr20, ↓sr21, ↓sr22, ↓sr23, ↓sr_no, ↓rt_f, ↓rt_t, ↓t_b, ↓b_addI, ↓b_subI, ↓b_mulI, ↓b_fdivI, ↓b_modI, ↓b_addL, ↓b_addT, ↓b_addS, ↓b_mulL, ↓b_mulT, ↓c_eqI, ↓c_neI, ↓c_ltI, ↓c_leI, ↓c_gtI, ↓c_geI, ↓c_eqS, ↓c_neS, ↓c_eq, ↓c_ne, ↓u_lenl, ↓u_lent, ↓u_tupLl, ↓u_tupTt, ↓u_lstQl, ↓u_lstQt, ↓u_intIi, ↓u_intBb, ↓u_absi, ↓u_repr, ↓u_isT, ↓u_isI, ↓u_isB, ↓u_isS, ↓u_all, ↓u_sum, ↓u_maxL, ↓u_minL, ↓u_sumT, ↓u_maxT, ↓u_minT, ↓u_sortDl, ↓u_sortDt, ↓u_max2, ↓u_min2, ↓u_gcd, ↓ix_l, ↓ix_t, ↓id_l0, ↓id_l1, ↓id_l2, ↓id_l3, ↓id_l4, ↓id_l5, ↓id_l6, ↓id_l7, ↓id_l8, ↓id_l9, ↓id_l10, ↓id_l11, ↓id_l12, ↓id_l13, ↓id_l14, ↓id_l15, ↓id_l16, ↓id_l17, ↓id_l18, ↓id_l19, ↓id_l20, ↓id_l21, ↓id_l22, ↓id_l23, ↓id_m0, ↓id_m1, ↓id_m2, ↓id_m3, ↓id_m4, ↓id_m5, ↓id_m6, ↓id_m7, ↓id_m8, ↓id_m9, ↓id_m10, ↓id_m11, ↓id_m12, ↓id_m13, ↓id_m14, ↓id_m15, ↓id_m16, ↓id_m17, ↓id_m18, ↓id_m19, ↓id_m20, ↓id_m21, ↓id_m22, ↓id_m23, ↓id_f, ↓id_r, ↓id_t, ↓idd0, ↓idd1, ↓idd2, ↓idd3, ↓idd4, ↓idd5, ↓idd6, ↓idd7, ↓idd8, ↓idd9, ↓idd10, ↓idd11, ↓idd12, ↓idd13, ↓idd14, ↓idd15, ↓idd16, ↓idd17, ↓idd18, ↓idd19, ↓idd20, ↓idd21, ↓idd22, ↓idd23, ↓idd_f, ↓idd_r, ↓dg, ↓dgd, ↓di, ↓pk, ↓i_l, ↓i_t, ↓sc_l, ↓sc_t, ↓pt_t, ↓pt_f, ↓it_l, ↓it_t, ↓ro1, ↓ro2, ↓ro3, ↓k_lst, ↓k_tup, ↓k_r1, ↓k_r2, ↓k_zl, ↓k_zt, ↓k_el, ↓k_et, ↓ex_fzT, ↓ex_fzI, ↓ex_fzB, ↓ex_T, ↓ex_L, ↓ex_some, ↓reduceIte, List.length_cons, List.length_nil, Nat.reduceAdd, Nat.reduceSub, true_and, and_true, List.nil_append, List.cons_append, decide_eq_true_eq, Bool.false_eq_true, List.append_nil, Bool.not_true, Bool.not_false, Bool.not_eq_true', decide_eq_false_iff_not]))
/-! a value with something otherwise -/
section
variable {F : Fns} {M a b : Nat} {v : D} {xs odd : List D} {kk : Bool → D → Prop}
theorem bent_some (h : Tm M a b (.tuple xs)) (ho : OddOk M odd) (ha : 1 ≤ a) : ∀ x ∈ odd ++ [.tuple (cut xs (some 1) none), .tuple (cut xs none (some (-1))), .tuple (xs ++ cut xs none (some 1)), .list xs, .tuple xs.reverse], Tm (M + 2) (a + 2) (2 * b + 8) x := by
  intro x hx
  have hx0 := h.dp
  obtain ⟨c, rfl⟩ : ∃ c, a = c + 1 := ⟨a - 1, by omega⟩
  have t := h.tup'
  rcases List.mem_append.mp hx with hx | hx
  · exact (ho.tm x hx).mono (by omega) (by omega) (by omega)
  · simp only [List.mem_cons, List.not_mem_nil, or_false] at hx
    rcases hx with rfl | rfl | rfl | rfl | rfl
    · exact (t.sub cut_sub).tup.mono (by omega) (by omega) (by omega)
    · exact (t.sub cut_sub).tup.mono (by omega) (by omega) (by omega)
    · exact (t.app (t.sub cut_sub)).tup.mono (by omega) (by omega) (by omega)
    · exact t.lst.mono (by omega) (by omega) (by omega)
    · exact (t.perm (List.reverse_perm xs)).tup.mono (by omega) (by omega) (by omega)
theorem bent_put (h : Tm M (a + 1) b (.tuple xs)) {i : Nat} (hi : i < xs.length) {r : D} (hr : Tm (M + 2) (a + 2) (2 * xs[i].bulk + 8) r) :
    Tm (M + 2) (a + 1 + 2) (2 * b + 8) (.tuple (cut xs none (some (i : Int)) ++ [r] ++ cut xs (some ((i : Int) + 1)) none)) := by
  have t := h.tup'
  have e1 : cut xs none (some (i : Int)) = xs.take i := by
    unfold cut
    rw [HT.sIx_none, HT.sIx_nat, Nat.min_eq_left (by omega), List.drop_zero, Nat.sub_zero]
  have e2 : cut xs (some ((i : Int) + 1)) none = xs.drop (i + 1) := by
    unfold cut
    rw [show ((i : Int) + 1) = ((i + 1 : Nat) : Int) by omega, HT.sIx_none, HT.sIx_nat, Nat.min_eq_left (by omega), List.take_of_length_le (by simp)]
  rw [e1, e2]
  have es : PyData.bulkAll xs = PyData.bulkAll (xs.take i) + (xs[i].bulk + 1) + PyData.bulkAll (xs.drop (i + 1)) := by
    conv => lhs; rw [← List.take_append_drop i xs, bulkAll_app, List.drop_eq_getElem_cons hi]
    simp only [PyData.bulkAll]
    omega
  have hb := t.bk
  have hr1 := hr.bk
  refine Tms.tup (a := a + 2) ⟨fun d hd => ?_, fun d hd => ?_, ?_⟩
  · rcases List.mem_append.mp hd with hd | hd
    · rcases List.mem_append.mp hd with hd | hd
      · exact ((t.mem (List.take_subset _ _ hd)).mono (show M ≤ M + 2 by omega) (Nat.le_refl _) (Nat.le_refl _)).t
      · rw [List.mem_singleton.mp hd]; exact hr.t
    · exact ((t.mem (List.drop_subset _ _ hd)).mono (show M ≤ M + 2 by omega) (Nat.le_refl _) (Nat.le_refl _)).t
  · rcases List.mem_append.mp hd with hd | hd
    · rcases List.mem_append.mp hd with hd | hd
      · have := t.dp d (List.take_subset _ _ hd); omega
      · rw [List.mem_singleton.mp hd]; exact hr.dp
    · have := t.dp d (List.drop_subset _ _ hd); omega
  · rw [bulkAll_app, bulkAll_app]
    simp only [PyData.bulkAll]
    omega
theorem bent_run (P : PickF F i__law_pick) (O : LOf F i__law_of) (I : LIsInt F i__law_is_int) (B : ∀ c, a = c + 1 → LBentA F i__law_bent c) (hM : M ≤ 2 ^ 20) (hb : b ≤ 2000) (ha50 : a ≤ 50) (hv : Tm M a b v) (ho : OddOk M odd) (h : ∀ r, Tm (M + 2) (a + 2) (2 * b + 8) r → kk false r) : run F f__law_bent [v, .list odd] kk := by
  have lo := ho.len
  unfold f__law_bent b__law_bent
  cases v with
  | tuple xs =>
    have tt : ∀ zs : List D, ¬ isTupD (.tuple zs) = false := fun _ e => by cases e
    have ha : 1 ≤ a := by have := hv.dp; simp only [PyData.depth] at this; omega
    have lx : xs.length ≤ 2000 := Nat.le_trans (Nat.le_trans len_bulk hv.tup0.bk) hb
    have sm := bent_some hv ho ha
    try trivial
    rw [if_neg (tt _)]
    refine ⟨fits0, hv.shp (by omega) (by have := hv.dp; omega), shp_nil, ?_⟩
    rw [eqv_nil]
    by_cases he : xs.isEmpty = true
    · rw [if_pos he]
      try trivial
      refine go_pos rfl ?_
      try trivial
      have l1 := cut_le_len (xs := xs) (lo := none) (hi := some 1)
      refine ⟨by unfold Fits; omega, by unfold Fits; omega, by unfold Fits; omega, ?_⟩
      unfold b__law_bent_t1
      rw [pick_rev]
      try trivial
      refine O _ _ (by simp) (by simp; omega) fun x hx => ?_
      try trivial
      exact h x (sm x hx)
    · rw [if_neg he]
      have hl : 0 < xs.length := List.length_pos_iff.mpr fun e => he (by rw [e]; rfl)
      refine P 5 _ (by omega) (by omega) fun r r0 r1 => ?_
      try trivial
      by_cases hr : r = 0
      · rw [if_pos hr]
        try trivial
        refine go_pos rfl ?_
        try trivial
        have l1 := cut_le_len (xs := xs) (lo := none) (hi := some 1)
        refine ⟨by unfold Fits; omega, by unfold Fits; omega, by unfold Fits; omega, ?_⟩
        unfold b__law_bent_t1
        rw [pick_rev]
        try trivial
        refine O _ _ (by simp) (by simp; omega) fun x hx => ?_
        try trivial
        exact h x (sm x hx)
      · rw [if_neg hr]
        unfold b__law_bent_t2
        try trivial
        refine P (xs.length : Nat) _ (by omega) (by omega) fun i i0 i1 => ?_
        rw [if_neg (by omega)] at i1
        obtain ⟨j, rfl⟩ : ∃ j : Nat, i = j := ⟨i.toNat, by omega⟩
        have hj : j < xs.length := by omega
        obtain ⟨c, rfl⟩ : ∃ c, a = c + 1 := ⟨a - 1, by omega⟩
        have tj := hv.tup'.mem (List.getElem_mem hj)
        have bj : xs[j].bulk + 1 ≤ b := Nat.le_trans (bulk_mem (List.getElem_mem hj)) hv.tup'.bk
        have l2 := cut_le_len (xs := xs) (lo := none) (hi := some (j : Int))
        have l3 := cut_le_len (xs := xs) (lo := some ((j : Int) + 1)) (hi := none)
        have tail : wS F b__law_bent_t3 [.src, .fz (.tuple xs), .fz (.list odd), .no, .fz (.int j)] ⟨fun _ => kk false .none, kk, fun _ => False⟩ := by
          unfold b__law_bent_t3
          try trivial
          refine at_any rfl hj ?_
          try trivial
          refine B c rfl M xs[j].bulk _ _ _ hM (by omega) ⟨tj.t, tj.dp, Nat.le_refl _⟩ ho fun r hr => ?_
          try trivial
          refine ⟨fits1, by unfold Fits; (try simp only [List.length_cons, List.length_nil]); omega, by unfold Fits; (try simp only [List.length_append, List.length_cons, List.length_nil]); omega, ?_⟩
          exact h _ (bent_put hv hj hr)
        try trivial
        refine at_any rfl hj ?_
        try trivial
        refine I _ _ ?_
        try trivial
        generalize hx : xs[j] = x at tj
        cases x with
        | int q =>
          refine go_pos rfl ?_
          refine P 3 _ (by omega) (by omega) fun r2 _ _ => ?_
          try trivial
          by_cases hr2 : 0 < r2
          · rw [if_pos hr2]
            try trivial
            refine at_any rfl hj ?_
            rw [hx]
            try trivial
            refine ⟨fits3, ?_⟩
            refine O _ _ (by simp) (by simp) fun x hx2 => ?_
            have hq : q.natAbs < M := by simpa [tame] using tj.t
            have hx3 : ∃ z : Int, x = .int z ∧ z.natAbs ≤ 2 := by
              simp only [List.mem_cons, List.not_mem_nil, or_false] at hx2
              rcases hx2 with rfl | rfl | rfl
              · exact ⟨1, rfl, by decide⟩
              · exact ⟨-1, rfl, by decide⟩
              · exact ⟨2, rfl, by decide⟩
            obtain ⟨z, rfl, hz⟩ := hx3
            try trivial
            refine ⟨fits1, by unfold Fits; (try simp only [List.length_cons, List.length_nil]); omega, by unfold Fits; (try simp only [List.length_append, List.length_cons, List.length_nil]); omega, ?_⟩
            refine h _ (bent_put hv hj ⟨by simp [tame]; omega, Nat.zero_le _, Nat.zero_le _⟩)
          · rw [if_neg hr2]
            exact tail
        | _ =>
          refine go_neg (fun e => by cases e) ?_
          (try trivial) <;> exact tail
  | _ =>
    try trivial
    refine go_pos rfl (go_neg (fun e => by cases e) ?_)
    unfold b__law_bent_t1
    try trivial
    refine O odd _ ho.ne (by omega) fun x hx => ?_
    try trivial
    exact h x ((ho.tm x hx).mono (by omega) (by omega) (by omega))
end
end Ev
set_option pp.maxSteps 500
/-! Dgt57: what the defs do (printed by gen/dat.py from lib). -/
namespace Ev
open PySem L2
local macro_rules | `(tactic| trivial) => `(tactic| ((try simp only [run, frame, List.map, List.replicate, Nat.reduceAdd, Nat.reduceSub, List.length_cons, List.length_nil, Bool.false_eq_true, if_false, if_true, List.nil_append, List.cons_append, true_and]); simp only [↓it_tF, ↓bd_fr, ↓idx_fr0, ↓idx_fr1, ↓i_tF, ↓i_lF, ↓u_ltF, ↓u_llF, ↓at2_0, ↓at2_1, fr0, fr1, ↓w_k, ↓w_vf0, ↓w_vf1, ↓w_vf2, ↓w_vf3, ↓w_vf4, ↓w_vf5, ↓w_vf6, ↓w_vf7, ↓w_vf8, ↓w_vf9, ↓w_vf10, ↓w_vf11, ↓w_vf12, ↓w_vf13, ↓w_vf14, ↓w_vf15, ↓w_vf16, ↓w_vf17, ↓w_vf18, ↓w_vf19, ↓w_vf20, ↓w_vf21, ↓w_vf22, ↓w_vf23, ↓w_vo0, ↓w_vo1, ↓w_vo2, ↓w_vo3, ↓w_vo4, ↓w_vo5, ↓w_vo6, ↓w_vo7, ↓w_vo8, ↓w_vo9, ↓w_vo10, ↓w_vo11, ↓w_vo12, ↓w_vo13, ↓w_vo14, ↓w_vo15, ↓w_vo16, ↓w_vo17, ↓w_vo18, ↓w_vo19, ↓w_vo20, ↓w_vo21, ↓w_vo22, ↓w_vo23, ↓w_mf0, ↓w_mf1, ↓w_mf2, ↓w_mf3, ↓w_mf4, ↓w_mf5, ↓w_mf6, ↓w_mf7, ↓w_mf8, ↓w_mf9, ↓w_mf10, ↓w_mf11, ↓w_mf12, ↓w_mf13, ↓w_mf14, ↓w_mf15, ↓w_mf16, ↓w_mf17, ↓w_mf18, ↓w_mf19, ↓w_mf20, ↓w_mf21, ↓w_mf22, ↓w_mf23, ↓w_mo0, ↓w_mo1, ↓w_mo2, ↓w_mo3, ↓w_mo4, ↓w_mo5, ↓w_mo6, ↓w_mo7, ↓w_mo8, ↓w_mo9, ↓w_mo10, ↓w_mo11, ↓w_mo12, ↓w_mo13, ↓w_mo14, ↓w_mo15, ↓w_mo16, ↓w_mo17, ↓w_mo18, ↓w_mo19, ↓w_mo20, ↓w_mo21, ↓w_mo22, ↓w_mo23, ↓w_op, ↓w_neg, ↓w_cmp, ↓w_ch2, ↓w_isN, ↓w_notN, ↓w_isB, ↓w_notB, ↓w_and, ↓w_or, ↓w_not, ↓w_ite, ↓w_nil, ↓w_cons, ↓w_star, ↓w_tup, ↓w_lst, ↓w_idx, ↓w_slc, ↓w_revL, ↓w_b1, ↓w_b2max2, ↓w_b2min2, ↓w_b2gcd, ↓w_b2indexL, ↓w_b2indexT, ↓w_dic, ↓w_dget, ↓w_dgetd, ↓w_dIn, ↓w_slcT, ↓w_lrngT, ↓w_lrngF, ↓w_pop0, ↓w_pop1, ↓w_call, ↓w_comp, ↓s_skip, ↓s_seq, ↓s_set, ↓s_unp, ↓s_par, ↓p_nil, ↓p_cons, ↓h_fz, ↓h_fr, ↓h_bw, ↓pe_nil, ↓pe_cons, ↓sl_fz, ↓sl_fr, ↓put0, ↓put1, ↓put2, ↓put3, ↓put4, ↓put5, ↓put6, ↓put7, ↓put8, ↓put9, ↓put10, ↓put11, ↓put12, ↓put13, ↓put14, ↓put15, ↓put16, ↓put17, ↓put18, ↓put19, ↓put20, ↓put21, ↓put22, ↓put23, ↓s_app, ↓s_ext, ↓s_popS, ↓s_sto, ↓s_sto2, ↓s_ifs, ↓s_for, ↓s_whl, ↓s_ret, ↓s_brk, ↓s_nev, ↓r_fz, ↓r_fr, ↓r_bo0, ↓r_bo1, ↓r_bo2, ↓r_bo3, ↓r_bo4, ↓r_bo5, ↓r_bo6, ↓r_bo7, ↓r_bo8, ↓r_bo9, ↓r_bo10, ↓r_bo11, ↓r_bo12, ↓r_bo13, ↓r_bo14, ↓r_bo15, ↓r_bo16, ↓r_bo17, ↓r_bo18, ↓r_bo19, ↓r_bo20, ↓r_bo21, ↓r_bo22, ↓r_bo23, ↓r_bf0, ↓r_bf1, ↓r_bf2, ↓r_bf3, ↓r_bf4, ↓r_bf5, ↓r_bf6, ↓r_bf7, ↓r_bf8, ↓r_bf9, ↓r_bf10, ↓r_bf11, ↓r_bf12, ↓r_bf13, ↓r_bf14, ↓r_bf15, ↓r_bf16, ↓r_bf17, ↓r_bf18, ↓r_bf19, ↓r_bf20, ↓r_bf21, ↓r_bf22, ↓r_bf23, ↓g_fz, ↓g_fr, ↓g_bo0, ↓g_bo1, ↓g_bo2, ↓g_bo3, ↓g_bo4, ↓g_bo5, ↓g_bo6, ↓g_bo7, ↓g_bo8, ↓g_bo9, ↓g_bo10, ↓g_bo11, ↓g_bo12, ↓g_bo13, ↓g_bo14, ↓g_bo15, ↓g_bo16, ↓g_bo17, ↓g_bo18, ↓g_bo19, ↓g_bo20, ↓g_bo21, ↓g_bo22, ↓g_bo23, ↓g_bf0, ↓g_bf1, ↓g_bf2, ↓g_bf3, ↓g_bf4, ↓g_bf5, ↓g_bf6, ↓g_bf7, ↓g_bf8, ↓g_bf9, ↓g_bf10, ↓g_bf11, ↓g_bf12, ↓g_bf13, ↓g_bf14, ↓g_bf15, ↓g_bf16, ↓g_bf17, ↓g_bf18, ↓g_bf19, ↓g_bf20, ↓g_bf21, ↓g_bf22, ↓g_bf23, ↓o_fz, ↓o_fr, ↓o_bo0, ↓o_bo1, ↓o_bo2, ↓o_bo3, ↓o_bo4, ↓o_bo5, ↓o_bo6, ↓o_bo7, ↓o_bo8, ↓o_bo9, ↓o_bo10, ↓o_bo11, ↓o_bo12, ↓o_bo13, ↓o_bo14, ↓o_bo15, ↓o_bo16, ↓o_bo17, ↓o_bo18, ↓o_bo19, ↓o_bo20, ↓o_bo21, ↓o_bo22, ↓o_bo23, ↓o_bf0, ↓o_bf1, ↓o_bf2, ↓o_bf3, ↓o_bf4, ↓o_bf5, ↓o_bf6, ↓o_bf7, ↓o_bf8, ↓o_bf9, ↓o_bf10, ↓o_bf11, ↓o_bf12, ↓o_bf13, ↓o_bf14, ↓o_bf15, ↓o_bf16, ↓o_bf17, ↓o_bf18, ↓o_bf19, ↓o_bf20, ↓o_bf21, ↓o_bf22, ↓o_bf23, ↓st_f0, ↓st_f1, ↓st_f2, ↓st_f3, ↓st_f4, ↓st_f5, ↓st_f6, ↓st_f7, ↓st_f8, ↓st_f9, ↓st_f10, ↓st_f11, ↓st_f12, ↓st_f13, ↓st_f14, ↓st_f15, ↓st_f16, ↓st_f17, ↓st_f18, ↓st_f19, ↓st_f20, ↓st_f21, ↓st_f22, ↓st_f23, ↓st_o0, ↓st_o1, ↓st_o2, ↓st_o3, ↓st_o4, ↓st_o5, ↓st_o6, ↓st_o7, ↓st_o8, ↓st_o9, ↓st_o10, ↓st_o11, ↓st_o12, ↓st_o13, ↓st_o14, ↓st_o15, ↓st_o16, ↓st_o17, ↓st_o18, ↓st_o19, ↓st_o20, ↓st_o21, ↓st_o22, ↓st_o23, ↓sb0, ↓sb1, ↓sb2, ↓sb3, ↓sb4, ↓sb5, ↓sb6, ↓sb7, ↓sb8, ↓sb9, ↓sb10, ↓sb11, ↓sb12, ↓sb13, ↓sb14, ↓sb15, ↓sb16, ↓sb17, ↓sb18, ↓sb19, ↓sb20, ↓sb21, ↓sb22, ↓sb23, ↓bd0, ↓bd1, ↓bd2, ↓bd3, ↓bd4, ↓bd5, ↓bd6, ↓bd7, ↓bd8, ↓bd9, ↓bd10, ↓bd11, ↓bd12, ↓bd13, ↓bd14, ↓bd15, ↓bd16, ↓bd17, ↓bd18, ↓bd19, ↓bd20, ↓bd21, ↓bd22, ↓bd23, ↓bd_cons, ↓bd_nil, ↓bd_t, ↓ow0, ↓ow1, ↓ow2, ↓ow3, ↓ow4, ↓ow5, ↓ow6, ↓ow7, ↓ow8, ↓ow9, ↓ow10, ↓ow11, ↓ow12, ↓ow13, ↓ow14, ↓ow15, ↓ow16, ↓ow17, ↓ow18, ↓ow19, ↓ow20, ↓ow21, ↓ow22, ↓ow23, ↓ap0, ↓ap1, ↓ap2, ↓ap3, ↓ap4, ↓ap5, ↓ap6, ↓ap7, ↓ap8, ↓ap9, ↓ap10, ↓ap11, ↓ap12, ↓ap13, ↓ap14, ↓ap15, ↓ap16, ↓ap17, ↓ap18, ↓ap19, ↓ap20, ↓ap21, ↓ap22, ↓ap23, ↓ex0, ↓ex1, ↓ex2, ↓ex3, ↓ex4, ↓ex5, ↓ex6, ↓ex7, ↓ex8, ↓ex9, ↓ex10, ↓ex11, ↓ex12, ↓ex13, ↓ex14, ↓ex15, ↓ex16, ↓ex17, ↓ex18, ↓ex19, ↓ex20, ↓ex21, ↓ex22, ↓ex23, ↓exT0, ↓exT1, ↓exT2, ↓exT3, ↓exT4, ↓exT5, ↓exT6, ↓exT7, ↓exT8, ↓exT9, ↓exT10, ↓exT11, ↓exT12, ↓exT13, ↓exT14, ↓exT15, ↓exT16, ↓exT17, ↓exT18, ↓exT19, ↓exT20, ↓exT21, ↓exT22, ↓exT23, ↓so0, ↓so1, ↓so2, ↓so3, ↓so4, ↓so5, ↓so6, ↓so7, ↓so8, ↓so9, ↓so10, ↓so11, ↓so12, ↓so13, ↓so14, ↓so15, ↓so16, ↓so17, ↓so18, ↓so19, ↓so20, ↓so21, ↓so22, ↓so23, ↓pp0, ↓pp1, ↓pp2, ↓pp3, ↓pp4, ↓pp5, ↓pp6, ↓pp7, ↓pp8, ↓pp9, ↓pp10, ↓pp11, ↓pp12, ↓pp13, ↓pp14, ↓pp15, ↓pp16, ↓pp17, ↓pp18, ↓pp19, ↓pp20, ↓pp21, ↓pp22, ↓pp23, ↓pq0, ↓pq1, ↓pq2, ↓pq3, ↓pq4, ↓pq5, ↓pq6, ↓pq7, ↓pq8, ↓pq9, ↓pq10, ↓pq11, ↓pq12, ↓pq13, ↓pq14, ↓pq15, ↓pq16, ↓pq17, ↓pq18, ↓pq19, ↓pq20, ↓pq21, ↓pq22, ↓pq23, ↓ps0, ↓ps1, ↓ps2, ↓ps3, ↓ps4, ↓ps5, ↓ps6, ↓ps7, ↓ps8, ↓ps9, ↓ps10, ↓ps11, ↓ps12, ↓ps13, ↓ps14, ↓ps15, ↓ps16, ↓ps17, ↓ps18, ↓ps19, ↓ps20, ↓ps21, ↓ps22, ↓ps23, ↓sr0, ↓sr1, ↓sr2, ↓sr3, ↓sr4, ↓sr5, ↓sr6, ↓sr7, ↓sr8, ↓sr9, ↓sr10, ↓sr11, ↓sr12, ↓sr13, ↓sr14, ↓sr15, ↓sr16, ↓sr17, ↓sr18, ↓sr19, ↓sr20, ↓sr21, ↓sr22, ↓sr23, ↓sr_no, ↓rt_f, ↓rt_t, ↓t_b, ↓b_addI, ↓b_subI, ↓b_mulI, ↓b_fdivI, ↓b_modI, ↓b_addL, ↓b_addT, ↓b_addS, ↓b_mulL, ↓b_mulT, ↓c_eqI, ↓c_neI, ↓c_ltI, ↓c_leI, ↓c_gtI, ↓c_geI, ↓c_eqS, ↓c_neS, ↓c_eq, ↓c_ne, ↓u_lenl, ↓u_lent, ↓u_tupLl, ↓u_tupTt, ↓u_lstQl, ↓u_lstQt, ↓u_intIi, ↓u_intBb, ↓u_absi, ↓u_repr, ↓u_isT, ↓u_isI, ↓u_isB, ↓u_isS, ↓u_all, ↓u_sum, ↓u_maxL, ↓u_minL, ↓u_sumT, ↓u_maxT, ↓u_minT, ↓u_sortDl, ↓u_sortDt, ↓u_max2, ↓u_min2, ↓u_gcd, ↓ix_l, ↓ix_t, ↓id_l0, ↓id_l1, ↓id_l2, ↓id_l3, ↓id_l4, ↓id_l5, ↓id_l6, ↓id_l7, ↓id_l8, ↓id_l9, ↓id_l10, ↓id_l11, ↓id_l12, ↓id_l13, ↓id_l14, ↓id_l15, ↓id_l16, ↓id_l17, ↓id_l18, ↓id_l19, ↓id_l20, ↓id_l21, ↓id_l22, ↓id_l23, ↓id_m0, ↓id_m1, ↓id_m2, ↓id_m3, ↓id_m4, ↓id_m5, ↓id_m6, ↓id_m7, ↓id_m8, ↓id_m9, ↓id_m10, ↓id_m11, ↓id_m12, ↓id_m13, ↓id_m14, ↓id_m15, ↓id_m16, ↓id_m17, ↓id_m18, ↓id_m19, ↓id_m20, ↓id_m21, ↓id_m22, ↓id_m23, ↓id_f, ↓id_r, ↓id_t, ↓idd0, ↓idd1, ↓idd2, ↓idd3, ↓idd4, ↓idd5, ↓idd6, ↓idd7, ↓idd8, ↓idd9, ↓idd10, ↓idd11, ↓idd12, ↓idd13, ↓idd14, ↓idd15, ↓idd16, ↓idd17, ↓idd18, ↓idd19, ↓idd20, ↓idd21, ↓idd22, ↓idd23, ↓idd_f, ↓idd_r, ↓dg, ↓dgd, ↓di, ↓pk, ↓i_l, ↓i_t, ↓sc_l, ↓sc_t, ↓pt_t, ↓pt_f, ↓it_l, ↓it_t, ↓ro1, ↓ro2, ↓ro3, ↓k_lst, ↓k_tup, ↓k_r1, ↓k_r2, ↓k_zl, ↓k_zt, ↓k_el, ↓k_et, ↓ex_fzT, ↓ex_fzI, ↓ex_fzB, ↓ex_T, ↓ex_L, ↓ex_some, ↓reduceIte, List.length_cons, List.length_nil, Nat.reduceAdd, Nat.reduceSub, true_and, and_true, List.nil_append, List.cons_append, decide_eq_true_eq, Bool.false_eq_true, List.append_nil, Bool.not_true, Bool.not_false, Bool.not_eq_true', decide_eq_false_iff_not]))
/-! numbers of ways -/
section
variable {F : Fns} {n t : Nat} {L W : Nat → Rat} {q : Rat} {f : Nat → Rat} {s : So} {l w : Nat → Nat} {kk : Bool → D → Prop}
theorem isfr_run (h : kk false (.bool true)) : run F f_is_fraction [fr q] kk := by
  have hp := q.den_pos
  have hr := q.reduced
  unfold f_is_fraction b_is_fraction
  unfold fr
  try trivial
  rw [if_neg (fun e => by cases e), if_neg (by simp)]
  unfold b_is_fraction_t1
  try trivial
  have e0 : [PyData.int q.num, .int (q.den : Nat)] = [q.num, (q.den : Int)].map PyData.int := rfl
  rw [e0]
  refine comp_all (fun e => ∃ s1, e = [.fz (.tuple ([q.num, (q.den : Int)].map PyData.int)), s1]) (fun _ => .bool true) ⟨_, rfl⟩ ?_ ?_
  · rintro i e nn hi ⟨s1, rfl⟩ hnn
    simp only [turnC, wipeE, List.set_cons_succ, List.set_cons_zero]
    have := hnn _ ⟨.fz (.int i), rfl⟩
    (try trivial) <;> exact this
  · rintro e ⟨s1, rfl⟩
    simp only [backE, List.getD_cons_succ, List.getD_cons_zero, List.set_cons_succ, List.set_cons_zero]
    try trivial
    refine ⟨[true, true], rfl, ?_⟩
    rw [if_neg (by decide)]
    unfold b_is_fraction_t2
    try trivial
    rw [if_pos (by omega)]
    try trivial
    have : Nat.gcd q.num.natAbs ((q.den : Nat) : Int).natAbs = 1 := by rw [Int.natAbs_natCast]; exact hr
    rw [this]
    exact h
theorem isfrt_run (I : IsFr F i_is_fraction) (h : kk false (.bool true)) : run F f_is_fraction_tuple [tupF n f] kk := by
  unfold f_is_fraction_tuple b_is_fraction_tuple tupF rowL
  try trivial
  refine go_pos rfl ?_
  try trivial
  refine comp_all (fun e => ∃ s1, e = [.fz (.tuple ((List.range n).map fun i => fr (f i))), s1]) (fun _ => .bool true) ⟨_, rfl⟩ ?_ ?_
  · rintro i e nn hi ⟨s1, rfl⟩ hnn
    simp only [turnC, wipeE, List.set_cons_succ, List.set_cons_zero]
    try trivial
    refine I _ _ ?_
    exact hnn _ ⟨_, rfl⟩
  · rintro e ⟨s1, rfl⟩
    simp only [backE, List.getD_cons_succ, List.getD_cons_zero, List.set_cons_succ, List.set_cons_zero]
    try trivial
    refine ⟨_, bools_map (f := fun _ => true), ?_⟩
    rw [all_id, List.all_eq_true.mpr (fun _ _ => rfl)]
    exact h
theorem iswts_run (I : IsFrT F i_is_fraction_tuple) (h1 : 1 ≤ n) (h2 : n ≤ 1000) (hW : ∀ j, j + 1 < n → W j ≠ 0) (h : kk false (.bool true)) : run F f_is_weights [wts n L W] kk := by
  unfold f_is_weights b_is_weights wts
  try trivial
  rw [if_neg (fun e => by cases e), if_neg (by simp)]
  have e0 : [tupF n L, tupF (n - 1) W] = [(n, L), (n - 1, W)].map fun p : Nat × (Nat → Rat) => tupF p.1 p.2 := rfl
  rw [e0]
  refine comp_all (fun e => ∃ s1, e = [.fz (.tuple ([(n, L), (n - 1, W)].map fun p : Nat × (Nat → Rat) => tupF p.1 p.2)), s1, .no, .no]) (fun _ => .bool true) ⟨_, rfl⟩ ?_ ?_
  · rintro ⟨m, f⟩ e nn hi ⟨s1, rfl⟩ hnn
    simp only [turnC, wipeE, List.set_cons_succ, List.set_cons_zero]
    try trivial
    refine I m f _ ?_
    exact hnn _ ⟨_, rfl⟩
  · rintro e ⟨s1, rfl⟩
    simp only [backE, List.getD_cons_succ, List.getD_cons_zero, List.set_cons_succ, List.set_cons_zero]
    try trivial
    refine ⟨[true, true], rfl, ?_⟩
    rw [if_neg (by decide)]
    unfold b_is_weights_t1
    try trivial
    rw [if_pos (by omega), if_pos (by omega)]
    unfold tupF rowL
    try trivial
    refine comp_keep (fun e => ∃ s1, e = [.fz (.tuple [.tuple ((List.range n).map fun i => fr (L i)), .tuple ((List.range (n - 1)).map fun i => fr (W i))]), s1, .fz (.tuple ((List.range n).map fun i => fr (L i))), .fz (.tuple ((List.range (n - 1)).map fun i => fr (W i)))]) (fun _ => false) (fun i => fr (W i)) ⟨_, rfl⟩ ?_ ?_
    · rintro i e nn hi ⟨s1, rfl⟩ hnn
      have hi := List.mem_range.mp hi
      simp only [turnC, wipeE, List.set_cons_succ, List.set_cons_zero]
      try trivial
      have hz : (W i).num ≠ 0 := fun e => hW i (by omega) (Rat.num_eq_zero.mp e)
      rw [if_neg hz]
      have := hnn _ ⟨.fz (fr (W i)), rfl⟩
      rw [if_neg (by decide)] at this
      exact this
    · rintro e ⟨s1, rfl⟩
      simp only [backE, List.getD_cons_succ, List.getD_cons_zero, List.set_cons_succ, List.set_cons_zero]
      rw [show (List.range (n - 1)).filter (fun _ => false) = [] from List.filter_eq_nil_iff.mpr fun _ _ => by decide]
      try trivial
      exact ⟨fits0, shp_nilL, shp_nilL, h⟩
theorem waynums_run (N : Next F i_next_way_numbers) (h1 : 1 ≤ n) (h2 : n ≤ 1000) (ht : t ≤ 1000) (ok : ∀ u, u < t → NxOk n L W (lineW n L W u)) (h : kk false (tupF n (lineW n L W t))) : run F f_way_numbers [wts n L W, .int (t : Nat)] kk := by
  unfold f_way_numbers b_way_numbers
  rw [show wts n L W = .tuple [tupF n L, tupF (n - 1) W] from rfl]
  try trivial
  refine ⟨fits2, by unfold Fits; omega, fits2, by unfold Fits; omega, ⟨by omega, by omega, by omega⟩, ?_⟩
  have e0 : ((n : Int) - 1).toNat = n - 1 := by omega
  rw [rep_one, e0, List.length_replicate, line0_row h1]
  refine ⟨by unfold Fits; omega, ⟨by omega, by omega⟩, ?_⟩
  rw [Int.toNat_natCast]
  refine loop_iter (fun i e => ∃ s, e = [.fz (.tuple [tupF n L, tupF (n - 1) W]), .fz (.int t), .fz (tupF n (lineW n L W i)), s]) ⟨_, rfl⟩ ?_ ?_
  · rintro i e nn hi ⟨s, rfl⟩ hn
    rw [Int.zero_add]
    unfold b_way_numbers_l1
    try trivial
    refine N n L W _ _ h1 h2 (ok i hi) ?_
    try trivial
    exact hn _ ⟨_, rfl⟩
  · rintro e ⟨s, rfl⟩
    unfold b_way_numbers_t2
    try trivial
    exact h
theorem sortw_run (Lv : LevC F i_level_choices) (Dw : DwnC F i_down_choices) (h1 : 1 ≤ n) (h2 : n ≤ 1000) (h : kk false (swts s n)) : run F f_sort_weights [s.d, .int (n : Nat)] kk := by
  unfold f_sort_weights b_sort_weights
  try trivial
  refine ⟨⟨by omega, by omega⟩, ?_⟩
  rw [Int.toNat_natCast]
  refine comp_map (fun e => ∃ s3, e = [.fz s.d, .fz (.int n), .no, s3]) (fun i => fr (cst (lev s) i)) ⟨_, rfl⟩ ?_ ?_
  · rintro i d e nn hd ⟨s3, rfl⟩ hnn
    obtain ⟨hi, rfl⟩ := rng_get hd
    have ei : (0 : Int) + (i : Int) * 1 = i := by omega
    rw [ei]
    simp only [turnC, wipeE, List.set_cons_succ, List.set_cons_zero]
    try trivial
    refine Lv s i _ (by omega) ?_
    try trivial
    have := hnn _ ⟨.fz (.int i), rfl⟩
    unfold cst at this
    rw [fr_nat] at this
    exact ⟨fits2, this⟩
  · rintro e ⟨s3, rfl⟩
    simp only [backE, List.getD_cons_succ, List.getD_cons_zero, List.set_cons_succ, List.set_cons_zero, rng_len]
    try trivial
    refine ⟨⟨by omega, by omega⟩, ?_⟩
    have e1 : ((n : Int) - 1).toNat = n - 1 := by omega
    rw [e1]
    refine comp_map (fun e => ∃ s3, e = [.fz s.d, .fz (.int n), .fz (tupF n (cst (lev s))), s3]) (fun i => fr (cst (dwn s) i)) ⟨_, rfl⟩ ?_ ?_
    · rintro i d e nn hd ⟨s3, rfl⟩ hnn
      obtain ⟨hi, rfl⟩ := rng_get hd
      have ei : (0 : Int) + (i : Int) * 1 = i := by omega
      rw [ei]
      simp only [turnC, wipeE, List.set_cons_succ, List.set_cons_zero]
      try trivial
      refine Dw s i _ (by omega) ?_
      try trivial
      have := hnn _ ⟨.fz (.int i), rfl⟩
      unfold cst at this
      rw [fr_nat] at this
      exact ⟨fits2, this⟩
    · rintro e ⟨s3, rfl⟩
      simp only [backE, List.getD_cons_succ, List.getD_cons_zero, List.set_cons_succ, List.set_cons_zero, rng_len]
      try trivial
      exact ⟨fits2, h⟩
theorem tldcnt_run (N : WayNums F i_way_numbers) (S : SortW F i_sort_weights) (h1 : 1 ≤ n) (h2 : n ≤ 8) (ht : t ≤ 40) (h : kk false (.int (lineN n (lev s) (dwn s) t 0 : Nat))) : run F f_told_way_count [s.d, .int (t : Nat), .int (n : Nat)] kk := by
  unfold f_told_way_count b_told_way_count
  try trivial
  refine S s n _ h1 (by omega) ?_
  try trivial
  refine N n _ _ t _ h1 (by omega) (by omega) (fun u hu => (so_lw h2).nx (by omega)) ?_
  try trivial
  refine ⟨0, ix_nat (i := 0) (by omega), ?_⟩
  rw [line_cast]
  first
    | (rw [Rat.num_natCast]; exact h)
    | (try trivial)
theorem line_first : PyData.int 1 :: (List.replicate (n - 1) [PyData.int 0]).flatten = nats (mapN n (lineN n l w 0)) ∨ n = 0 := by
  by_cases hn : n = 0
  · exact .inr hn
  · refine .inl ?_
    rw [rep_one]
    apply List.ext_getElem?
    intro i
    unfold nats mapN
    rw [List.getElem?_map, List.getElem?_map]
    cases i with
    | zero => rw [List.getElem?_range (by omega)]; simp [lineN]
    | succ i =>
      rw [List.getElem?_cons_succ, List.getElem?_replicate]
      by_cases hi : i + 1 < n
      · rw [List.getElem?_range hi, if_pos (by omega)]; simp [lineN]
      · rw [if_neg (by omega), List.getElem?_eq_none (by simpa using Nat.le_of_not_lt hi)]; rfl
theorem lnums_l2 {X : Nat → Nat} {j : Nat} {d : D} {s2 s4 s5 s8 : Sl} {nx bk : Ev → Prop} {rt : Bool → D → Prop} (hd : d = lN (mapN n X)) (h4 : s4 = .ow d ∨ s4 = .fz d) (hj : j < n) (h2 : n ≤ 1000) (ok : LwOk n l w)
    (h : ∀ s8, nx [.fz (lN (mapN n l)), .fz (lN (mapN (n - 1) w)), s2, .fz (.int n), s4, s5, .ow (lN (mapN (j + 1) (nxtN n l w X))), .fz (.int j), s8]) :
    wS F b__law_numbers_l2 [.fz (lN (mapN n l)), .fz (lN (mapN (n - 1) w)), s2, .fz (.int n), s4, s5, .ow (lN (mapN j (nxtN n l w X))), .fz (.int j), s8] ⟨nx, rt, bk⟩ := by
  have hc : ∀ {a b : Nat}, a ≤ 64 → MulOk ((a : Nat) : Int) ((b : Nat) : Int) := fun ha => .inl (by rw [Int.natAbs_natCast]; omega)
  have fin : ∀ z : Int, z = (nxtN n l w X j : Nat) → ∀ s8, nx [.fz (lN (mapN n l)), .fz (lN (mapN (n - 1) w)), s2, .fz (.int n), s4, s5, .ow (.list (nats (mapN j (nxtN n l w X)) ++ [.int z])), .fz (.int j), s8] := fun z hz s8 => by
    rw [hz, mapN_succ]
    exact h s8
  subst hd
  unfold b__law_numbers_l2
  have go : wS F b__law_numbers_l2 [.fz (lN (mapN n l)), .fz (lN (mapN (n - 1) w)), s2, .fz (.int n), s4, s5, .ow (lN (mapN j (nxtN n l w X))), .fz (.int j), s8] ⟨nx, rt, bk⟩ := by
    unfold b__law_numbers_l2
    rcases h4 with rfl | rfl
    all_goals
      try trivial
      refine at_nats (i := j) rfl (by rw [mapN_len]; exact hj) ?_
      try trivial
      refine at_nats (i := j) rfl (by rw [mapN_len]; exact hj) ?_
      rw [mapN_get hj, mapN_get hj]
      try trivial
      refine ⟨hc (ok.l j hj), ?_⟩
      by_cases h0 : 0 < j
      · rw [if_pos (by omega)]
        try trivial
        refine at_nats (i := j - 1) (by omega) (by rw [mapN_len]; omega) ?_
        rw [mapN_get (by omega)]
        try trivial
        by_cases h1 : j + 1 < n
        · rw [if_pos (by omega)]
          try trivial
          refine at_nats (i := j) rfl (by rw [mapN_len]; omega) ?_
          try trivial
          refine at_nats (i := j + 1) (by omega) (by rw [mapN_len]; omega) ?_
          rw [mapN_get (by omega), mapN_get (by omega)]
          try trivial
          refine ⟨hc (ok.w j h1), by rw [nats_len, mapN_len]; omega, ?_⟩
          exact fin _ (by unfold nxtN; rw [if_pos h0, if_pos h1]; push_cast; rfl) _
        · rw [if_neg (by omega)]
          try trivial
          refine ⟨by rw [nats_len, mapN_len]; omega, ?_⟩
          exact fin _ (by unfold nxtN; rw [if_pos h0, if_neg h1]; push_cast; omega) _
      · rw [if_neg (by omega)]
        try trivial
        by_cases h1 : j + 1 < n
        · rw [if_pos (by omega)]
          try trivial
          refine at_nats (i := j) rfl (by rw [mapN_len]; omega) ?_
          try trivial
          refine at_nats (i := j + 1) (by omega) (by rw [mapN_len]; omega) ?_
          rw [mapN_get (by omega), mapN_get (by omega)]
          try trivial
          refine ⟨hc (ok.w j h1), by rw [nats_len, mapN_len]; omega, ?_⟩
          exact fin _ (by unfold nxtN; rw [if_neg h0, if_pos h1]; push_cast; omega) _
        · rw [if_neg (by omega)]
          try trivial
          refine ⟨by rw [nats_len, mapN_len]; omega, ?_⟩
          exact fin _ (by unfold nxtN; rw [if_neg h0, if_neg h1]; push_cast; omega) _
  exact go
theorem lnums_run (h1 : 1 ≤ n) (h2 : n ≤ 1000) (ht : t ≤ 1000) (ok : LwOk n l w) (h : kk false (.int (lineN n l w t 0 : Nat))) : run F f__law_numbers [lN (mapN n l), lN (mapN (n - 1) w), .int (t : Nat)] kk := by
  have fin : ∀ {d : D} {s4 s5 s6 s7 s8 : Sl}, d = lN (mapN n (lineN n l w t)) → (s4 = .ow d ∨ s4 = .fz d) → wS F b__law_numbers_t4 [.fz (lN (mapN n l)), .fz (lN (mapN (n - 1) w)), .fz (.int t), .fz (.int n), s4, s5, s6, s7, s8] ⟨fun _ => kk false .none, kk, fun _ => False⟩ := by
    intro d s4 s5 s6 s7 s8 hd h4
    subst hd
    unfold b__law_numbers_t4
    rcases h4 with rfl | rfl
    all_goals
      try trivial
      refine at_nats (i := 0) rfl (by rw [mapN_len]; omega) ?_
      rw [mapN_get (by omega)]
      try trivial
  unfold f__law_numbers b__law_numbers
  try trivial
  rw [nats_len, mapN_len]
  refine ⟨fits1, fits1, ⟨by omega, by omega, by unfold Fits; simp; omega⟩, ?_⟩
  rw [show ((n : Int) - 1).toNat = n - 1 by omega]
  rcases line_first (n := n) (l := l) (w := w) with e0 | e0
  · rw [e0]
    refine ⟨by rw [rep_one]; unfold Fits; simp; omega, ⟨by omega, by omega⟩, ?_⟩
    rw [Int.toNat_natCast]
    refine loop_iter (fun i e => ∃ d s4 s5 s6 s7 s8, e = [.fz (lN (mapN n l)), .fz (lN (mapN (n - 1) w)), .fz (.int t), .fz (.int n), s4, s5, s6, s7, s8] ∧ d = lN (mapN n (lineN n l w i)) ∧ (s4 = .ow d ∨ s4 = .fz d)) ⟨_, _, _, _, _, _, rfl, rfl, .inl rfl⟩ ?_ ?_
    · rintro i e nn hi ⟨d, s4, s5, s6, s7, s8, rfl, hd, h4⟩ hn
      rw [Int.zero_add]
      unfold b__law_numbers_l1
      try trivial
      refine ⟨fits0, ⟨by omega, by omega⟩, ?_⟩
      rw [Int.toNat_natCast]
      refine loop_iter (fun j e => ∃ s7 s8, e = [.fz (lN (mapN n l)), .fz (lN (mapN (n - 1) w)), .fz (.int t), .fz (.int n), s4, .fz (.int i), .ow (lN (mapN j (nxtN n l w (lineN n l w i)))), s7, s8]) ⟨_, _, rfl⟩ ?_ ?_
      · rintro j e n2 hj ⟨s7, s8, rfl⟩ hn2
        rw [Int.zero_add]
        try trivial
        exact lnums_l2 hd h4 hj h2 ok fun s8 => hn2 _ ⟨_, _, rfl⟩
      · rintro e ⟨s7, s8, rfl⟩
        unfold b__law_numbers_t3
        try trivial
        exact hn _ ⟨_, _, _, _, _, _, rfl, rfl, .inr rfl⟩
    · rintro e ⟨d, s4, s5, s6, s7, s8, rfl, hd, h4⟩
      exact fin hd h4
  · omega
end
end Ev
set_option pp.maxSteps 500
/-! Law57: the law's own def. -/
namespace Ev
open PySem L2
local macro_rules | `(tactic| trivial) => `(tactic| ((try simp only [run, frame, List.map, List.replicate, Nat.reduceAdd, Nat.reduceSub, List.length_cons, List.length_nil, Bool.false_eq_true, if_false, if_true, List.nil_append, List.cons_append, true_and]); simp only [↓it_tF, ↓bd_fr, ↓idx_fr0, ↓idx_fr1, ↓i_tF, ↓i_lF, ↓u_ltF, ↓u_llF, ↓at2_0, ↓at2_1, fr0, fr1, ↓w_k, ↓w_vf0, ↓w_vf1, ↓w_vf2, ↓w_vf3, ↓w_vf4, ↓w_vf5, ↓w_vf6, ↓w_vf7, ↓w_vf8, ↓w_vf9, ↓w_vf10, ↓w_vf11, ↓w_vf12, ↓w_vf13, ↓w_vf14, ↓w_vf15, ↓w_vf16, ↓w_vf17, ↓w_vf18, ↓w_vf19, ↓w_vf20, ↓w_vf21, ↓w_vf22, ↓w_vf23, ↓w_vo0, ↓w_vo1, ↓w_vo2, ↓w_vo3, ↓w_vo4, ↓w_vo5, ↓w_vo6, ↓w_vo7, ↓w_vo8, ↓w_vo9, ↓w_vo10, ↓w_vo11, ↓w_vo12, ↓w_vo13, ↓w_vo14, ↓w_vo15, ↓w_vo16, ↓w_vo17, ↓w_vo18, ↓w_vo19, ↓w_vo20, ↓w_vo21, ↓w_vo22, ↓w_vo23, ↓w_mf0, ↓w_mf1, ↓w_mf2, ↓w_mf3, ↓w_mf4, ↓w_mf5, ↓w_mf6, ↓w_mf7, ↓w_mf8, ↓w_mf9, ↓w_mf10, ↓w_mf11, ↓w_mf12, ↓w_mf13, ↓w_mf14, ↓w_mf15, ↓w_mf16, ↓w_mf17, ↓w_mf18, ↓w_mf19, ↓w_mf20, ↓w_mf21, ↓w_mf22, ↓w_mf23, ↓w_mo0, ↓w_mo1, ↓w_mo2, ↓w_mo3, ↓w_mo4, ↓w_mo5, ↓w_mo6, ↓w_mo7, ↓w_mo8, ↓w_mo9, ↓w_mo10, ↓w_mo11, ↓w_mo12, ↓w_mo13, ↓w_mo14, ↓w_mo15, ↓w_mo16, ↓w_mo17, ↓w_mo18, ↓w_mo19, ↓w_mo20, ↓w_mo21, ↓w_mo22, ↓w_mo23, ↓w_op, ↓w_neg, ↓w_cmp, ↓w_ch2, ↓w_isN, ↓w_notN, ↓w_isB, ↓w_notB, ↓w_and, ↓w_or, ↓w_not, ↓w_ite, ↓w_nil, ↓w_cons, ↓w_star, ↓w_tup, ↓w_lst, ↓w_idx, ↓w_slc, ↓w_revL, ↓w_b1, ↓w_b2max2, ↓w_b2min2, ↓w_b2gcd, ↓w_b2indexL, ↓w_b2indexT, ↓w_dic, ↓w_dget, ↓w_dgetd, ↓w_dIn, ↓w_slcT, ↓w_lrngT, ↓w_lrngF, ↓w_pop0, ↓w_pop1, ↓w_call, ↓w_comp, ↓s_skip, ↓s_seq, ↓s_set, ↓s_unp, ↓s_par, ↓p_nil, ↓p_cons, ↓h_fz, ↓h_fr, ↓h_bw, ↓pe_nil, ↓pe_cons, ↓sl_fz, ↓sl_fr, ↓put0, ↓put1, ↓put2, ↓put3, ↓put4, ↓put5, ↓put6, ↓put7, ↓put8, ↓put9, ↓put10, ↓put11, ↓put12, ↓put13, ↓put14, ↓put15, ↓put16, ↓put17, ↓put18, ↓put19, ↓put20, ↓put21, ↓put22, ↓put23, ↓s_app, ↓s_ext, ↓s_popS, ↓s_sto, ↓s_sto2, ↓s_ifs, ↓s_for, ↓s_whl, ↓s_ret, ↓s_brk, ↓s_nev, ↓r_fz, ↓r_fr, ↓r_bo0, ↓r_bo1, ↓r_bo2, ↓r_bo3, ↓r_bo4, ↓r_bo5, ↓r_bo6, ↓r_bo7, ↓r_bo8, ↓r_bo9, ↓r_bo10, ↓r_bo11, ↓r_bo12, ↓r_bo13, ↓r_bo14, ↓r_bo15, ↓r_bo16, ↓r_bo17, ↓r_bo18, ↓r_bo19, ↓r_bo20, ↓r_bo21, ↓r_bo22, ↓r_bo23, ↓r_bf0, ↓r_bf1, ↓r_bf2, ↓r_bf3, ↓r_bf4, ↓r_bf5, ↓r_bf6, ↓r_bf7, ↓r_bf8, ↓r_bf9, ↓r_bf10, ↓r_bf11, ↓r_bf12, ↓r_bf13, ↓r_bf14, ↓r_bf15, ↓r_bf16, ↓r_bf17, ↓r_bf18, ↓r_bf19, ↓r_bf20, ↓r_bf21, ↓r_bf22, ↓r_bf23, ↓g_fz, ↓g_fr, ↓g_bo0, ↓g_bo1, ↓g_bo2, ↓g_bo3, ↓g_bo4, ↓g_bo5, ↓g_bo6, ↓g_bo7, ↓g_bo8, ↓g_bo9, ↓g_bo10, ↓g_bo11, ↓g_bo12, ↓g_bo13, ↓g_bo14, ↓g_bo15, ↓g_bo16, ↓g_bo17, ↓g_bo18, ↓g_bo19, ↓g_bo20, ↓g_bo21, ↓g_bo22, ↓g_bo23, ↓g_bf0, ↓g_bf1, ↓g_bf2, ↓g_bf3, ↓g_bf4, ↓g_bf5, ↓g_bf6, ↓g_bf7, ↓g_bf8, ↓g_bf9, ↓g_bf10, ↓g_bf11, ↓g_bf12, ↓g_bf13, ↓g_bf14, ↓g_bf15, ↓g_bf16, ↓g_bf17, ↓g_bf18, ↓g_bf19, ↓g_bf20, ↓g_bf21, ↓g_bf22, ↓g_bf23, ↓o_fz, ↓o_fr, ↓o_bo0, ↓o_bo1, ↓o_bo2, ↓o_bo3, ↓o_bo4, ↓o_bo5, ↓o_bo6, ↓o_bo7, ↓o_bo8, ↓o_bo9, ↓o_bo10, ↓o_bo11, ↓o_bo12, ↓o_bo13, ↓o_bo14, ↓o_bo15, ↓o_bo16, ↓o_bo17, ↓o_bo18, ↓o_bo19, ↓o_bo20, ↓o_bo21, ↓o_bo22, ↓o_bo23, ↓o_bf0, ↓o_bf1, ↓o_bf2, ↓o_bf3, ↓o_bf4, ↓o_bf5, ↓o_bf6, ↓o_bf7, ↓o_bf8, ↓o_bf9, ↓o_bf10, ↓o_bf11, ↓o_bf12, ↓o_bf13, ↓o_bf14, ↓o_bf15, ↓o_bf16, ↓o_bf17, ↓o_bf18, ↓o_bf19, ↓o_bf20, ↓o_bf21, ↓o_bf22, ↓o_bf23, ↓st_f0, ↓st_f1, ↓st_f2, ↓st_f3, ↓st_f4, ↓st_f5, ↓st_f6, ↓st_f7, ↓st_f8, ↓st_f9, ↓st_f10, ↓st_f11, ↓st_f12, ↓st_f13, ↓st_f14, ↓st_f15, ↓st_f16, ↓st_f17, ↓st_f18, ↓st_f19, ↓st_f20, ↓st_f21, ↓st_f22, ↓st_f23, ↓st_o0, ↓st_o1, ↓st_o2, ↓st_o3, ↓st_o4, ↓st_o5, ↓st_o6, ↓st_o7, ↓st_o8, ↓st_o9, ↓st_o10, ↓st_o11, ↓st_o12, ↓st_o13, ↓st_o14, ↓st_o15, ↓st_o16, ↓st_o17, ↓st_o18, ↓st_o19, ↓st_o20, ↓st_o21, ↓st_o22, ↓st_o23, ↓sb0, ↓sb1, ↓sb2, ↓sb3, ↓sb4, ↓sb5, ↓sb6, ↓sb7, ↓sb8, ↓sb9, ↓sb10, ↓sb11, ↓sb12, ↓sb13, ↓sb14, ↓sb15, ↓sb16, ↓sb17, ↓sb18, ↓sb19, ↓sb20, ↓sb21, ↓sb22, ↓sb23, ↓bd0, ↓bd1, ↓bd2, ↓bd3, ↓bd4, ↓bd5, ↓bd6, ↓bd7, ↓bd8, ↓bd9, ↓bd10, ↓bd11, ↓bd12, ↓bd13, ↓bd14, ↓bd15, ↓bd16, ↓bd17, ↓bd18, ↓bd19, ↓bd20, ↓bd21, ↓bd22, ↓bd23, ↓bd_cons, ↓bd_nil, ↓bd_t, ↓ow0, ↓ow1, ↓ow2, ↓ow3, ↓ow4, ↓ow5, ↓ow6, ↓ow7, ↓ow8, ↓ow9, ↓ow10, ↓ow11, ↓ow12, ↓ow13, ↓ow14, ↓ow15, ↓ow16, ↓ow17, ↓ow18, ↓ow19, ↓ow20, ↓ow21, ↓ow22, ↓ow23, ↓ap0, ↓ap1, ↓ap2, ↓ap3, ↓ap4, ↓ap5, ↓ap6, ↓ap7, ↓ap8, ↓ap9, ↓ap10, ↓ap11, ↓ap12, ↓ap13, ↓ap14, ↓ap15, ↓ap16, ↓ap17, ↓ap18, ↓ap19, ↓ap20, ↓ap21, ↓ap22, ↓ap23, ↓ex0, ↓ex1, ↓ex2, ↓ex3, ↓ex4, ↓ex5, ↓ex6, ↓ex7, ↓ex8, ↓ex9, ↓ex10, ↓ex11, ↓ex12, ↓ex13, ↓ex14, ↓ex15, ↓ex16, ↓ex17, ↓ex18, ↓ex19, ↓ex20, ↓ex21, ↓ex22, ↓ex23, ↓exT0, ↓exT1, ↓exT2, ↓exT3, ↓exT4, ↓exT5, ↓exT6, ↓exT7, ↓exT8, ↓exT9, ↓exT10, ↓exT11, ↓exT12, ↓exT13, ↓exT14, ↓exT15, ↓exT16, ↓exT17, ↓exT18, ↓exT19, ↓exT20, ↓exT21, ↓exT22, ↓exT23, ↓so0, ↓so1, ↓so2, ↓so3, ↓so4, ↓so5, ↓so6, ↓so7, ↓so8, ↓so9, ↓so10, ↓so11, ↓so12, ↓so13, ↓so14, ↓so15, ↓so16, ↓so17, ↓so18, ↓so19, ↓so20, ↓so21, ↓so22, ↓so23, ↓pp0, ↓pp1, ↓pp2, ↓pp3, ↓pp4, ↓pp5, ↓pp6, ↓pp7, ↓pp8, ↓pp9, ↓pp10, ↓pp11, ↓pp12, ↓pp13, ↓pp14, ↓pp15, ↓pp16, ↓pp17, ↓pp18, ↓pp19, ↓pp20, ↓pp21, ↓pp22, ↓pp23, ↓pq0, ↓pq1, ↓pq2, ↓pq3, ↓pq4, ↓pq5, ↓pq6, ↓pq7, ↓pq8, ↓pq9, ↓pq10, ↓pq11, ↓pq12, ↓pq13, ↓pq14, ↓pq15, ↓pq16, ↓pq17, ↓pq18, ↓pq19, ↓pq20, ↓pq21, ↓pq22, ↓pq23, ↓ps0, ↓ps1, ↓ps2, ↓ps3, ↓ps4, ↓ps5, ↓ps6, ↓ps7, ↓ps8, ↓ps9, ↓ps10, ↓ps11, ↓ps12, ↓ps13, ↓ps14, ↓ps15, ↓ps16, ↓ps17, ↓ps18, ↓ps19, ↓ps20, ↓ps21, ↓ps22, ↓ps23, ↓sr0, ↓sr1, ↓sr2, ↓sr3, ↓sr4, ↓sr5, ↓sr6, ↓sr7, ↓sr8, ↓sr9, ↓sr10, ↓sr11, ↓sr12, ↓sr13, ↓sr14, ↓sr15, ↓sr16, ↓sr17, ↓sr18, ↓sr19, ↓sr20, ↓sr21, ↓sr22, ↓sr23, ↓sr_no, ↓rt_f, ↓rt_t, ↓t_b, ↓b_addI, ↓b_subI, ↓b_mulI, ↓b_fdivI, ↓b_modI, ↓b_addL, ↓b_addT, ↓b_addS, ↓b_mulL, ↓b_mulT, ↓c_eqI, ↓c_neI, ↓c_ltI, ↓c_leI, ↓c_gtI, ↓c_geI, ↓c_eqS, ↓c_neS, ↓c_eq, ↓c_ne, ↓u_lenl, ↓u_lent, ↓u_tupLl, ↓u_tupTt, ↓u_lstQl, ↓u_lstQt, ↓u_intIi, ↓u_intBb, ↓u_absi, ↓u_repr, ↓u_isT, ↓u_isI, ↓u_isB, ↓u_isS, ↓u_all, ↓u_sum, ↓u_maxL, ↓u_minL, ↓u_sumT, ↓u_maxT, ↓u_minT, ↓u_sortDl, ↓u_sortDt, ↓u_max2, ↓u_min2, ↓u_gcd, ↓ix_l, ↓ix_t, ↓id_l0, ↓id_l1, ↓id_l2, ↓id_l3, ↓id_l4, ↓id_l5, ↓id_l6, ↓id_l7, ↓id_l8, ↓id_l9, ↓id_l10, ↓id_l11, ↓id_l12, ↓id_l13, ↓id_l14, ↓id_l15, ↓id_l16, ↓id_l17, ↓id_l18, ↓id_l19, ↓id_l20, ↓id_l21, ↓id_l22, ↓id_l23, ↓id_m0, ↓id_m1, ↓id_m2, ↓id_m3, ↓id_m4, ↓id_m5, ↓id_m6, ↓id_m7, ↓id_m8, ↓id_m9, ↓id_m10, ↓id_m11, ↓id_m12, ↓id_m13, ↓id_m14, ↓id_m15, ↓id_m16, ↓id_m17, ↓id_m18, ↓id_m19, ↓id_m20, ↓id_m21, ↓id_m22, ↓id_m23, ↓id_f, ↓id_r, ↓id_t, ↓idd0, ↓idd1, ↓idd2, ↓idd3, ↓idd4, ↓idd5, ↓idd6, ↓idd7, ↓idd8, ↓idd9, ↓idd10, ↓idd11, ↓idd12, ↓idd13, ↓idd14, ↓idd15, ↓idd16, ↓idd17, ↓idd18, ↓idd19, ↓idd20, ↓idd21, ↓idd22, ↓idd23, ↓idd_f, ↓idd_r, ↓dg, ↓dgd, ↓di, ↓pk, ↓i_l, ↓i_t, ↓sc_l, ↓sc_t, ↓pt_t, ↓pt_f, ↓it_l, ↓it_t, ↓ro1, ↓ro2, ↓ro3, ↓k_lst, ↓k_tup, ↓k_r1, ↓k_r2, ↓k_zl, ↓k_zt, ↓k_el, ↓k_et, ↓ex_fzT, ↓ex_fzI, ↓ex_fzB, ↓ex_T, ↓ex_L, ↓ex_some, ↓reduceIte, List.length_cons, List.length_nil, Nat.reduceAdd, Nat.reduceSub, true_and, and_true, List.nil_append, List.cons_append, decide_eq_true_eq, Bool.false_eq_true, List.append_nil, Bool.not_true, Bool.not_false, Bool.not_eq_true', decide_eq_false_iff_not]))
structure Fs57 (F : Fns) : Prop where
  lev : LevC F i_level_choices
  dwn : DwnC F i_down_choices
  isw : IsWts F i_is_weights
  wnm : WayNums F i_way_numbers
  row : RowW F i_row_of_weights
  tld : IsTold F i_is_told_way
  tws : ToldW F i_told_ways
  sow : SortW F i_sort_weights
  cnt : TldCnt F i_told_way_count
  pick : PickF F i__law_pick
  of : LOf F i__law_of
  lch : LchC F i__law_choices
  ltw : LToldW F i__law_told_ways
  ltl : IsTold F i__law_is_told
  num : LNums F i__law_numbers
  bent : LBentA F i__law_bent 2
def oddL : List D := [.none, .bool true, .int (-1), .str "0", .tuple [], .tuple [.int 0], .list [.int 0], .int 9, .tuple [.int 0, .int 0]]
theorem odd_ok : OddOk (2 ^ 20) oddL := ⟨by decide, by decide, fun d hd => by
  simp only [oddL, List.mem_cons, List.not_mem_nil, or_false] at hd
  rcases hd with rfl | rfl | rfl | rfl | rfl | rfl | rfl | rfl | rfl <;> exact ⟨by decide +kernel, by decide, by decide +kernel⟩⟩
section
variable {F : Fns} {s : So} {st n far : Nat} {nx bk : Ev → Prop} {rt : Bool → D → Prop} {s0 s2 s4 s5 s6 s7 s8 s9 s10 s11 s12 s13 s14 s15 s16 s17 s18 s19 s20 s21 s22 s23 : Sl}
def OddS (s2 : Sl) : Prop := s2 = .ow (.list oddL) ∨ s2 = .fz (.list oddL)
theorem l10_run (G : Fs57 F) {d : D} (hd : Tm (2 ^ 30) 50 10000 d) (h : ∀ s23, nx [s0, .src, s2, .fz s.d, s4, s5, s6, s7, s8, s9, s10, s11, s12, s13, s14, s15, s16, s17, s18, s19, s20, s21, .fz d, s23]) :
    wS F b_law_l10 [s0, .src, s2, .fz s.d, s4, s5, s6, s7, s8, s9, s10, s11, s12, s13, s14, s15, s16, s17, s18, s19, s20, s21, .fz d, s23] ⟨nx, rt, bk⟩ := by
  have sh := hd.shows (by decide) (by decide) (by decide)
  have sb : ∀ b, Shows (.bool b) := fun b => (Tm.shows (M := 2 ^ 30) (a := 0) (b := 0) ⟨rfl, Nat.le_refl _, Nat.le_refl _⟩ (by decide) (by decide) (by decide))
  unfold b_law_l10
  try trivial
  refine ⟨sh, ?_⟩
  refine G.tld s d _ hd ?_
  try trivial
  refine ⟨sb _, ?_⟩
  refine G.ltl s d _ hd ?_
  try trivial
  refine ⟨sb _, ?_⟩
  rw [if_neg (by simp)]
  refine ⟨sh, ?_⟩
  rw [if_neg (by simp)]
  exact h _
abbrev E57 (s : So) (s0 s2 s4 s5 s6 s7 s8 s9 s10 s11 s12 s13 s14 s15 s16 s17 s18 s19 s20 s21 s22 s23 : Sl) : Ev := [s0, .src, s2, .fz s.d, s4, s5, s6, s7, s8, s9, s10, s11, s12, s13, s14, s15, s16, s17, s18, s19, s20, s21, s22, s23]
abbrev Nx57 (s : So) (nx : Ev → Prop) : Prop := ∀ s0 s2 s4 s5 s6 s7 s8 s9 s10 s11 s12 s13 s14 s15 s16 s17 s18 s19 s20 s21 s22 s23, OddS s2 → nx (E57 s s0 s2 s4 s5 s6 s7 s8 s9 s10 s11 s12 s13 s14 s15 s16 s17 s18 s19 s20 s21 s22 s23)
theorem t9_run (G : Fs57 F) (ho : OddS s2) {vs : List D} (hv : ∀ d ∈ vs, Tm (2 ^ 30) 50 10000 d) (h20 : s20 = .ow (.list vs) ∨ s20 = .fz (.list vs)) (h : Nx57 s nx) :
    wS F b_law_t9 (E57 s s0 s2 s4 s5 s6 s7 s8 s9 s10 s11 s12 s13 s14 s15 s16 s17 s18 s19 s20 s21 s22 s23) ⟨nx, rt, bk⟩ := by
  unfold b_law_t9
  have main : loopS F (Tg.s 22) b_law_l10 vs (E57 s s0 s2 s4 s5 s6 s7 s8 s9 s10 s11 s12 s13 s14 s15 s16 s17 s18 s19 (.fz (.list vs)) s21 s22 s23) ⟨fun e => wS F .skip e ⟨nx, rt, bk⟩, rt, bk⟩ (Hold.mk _) := by
    refine loop_inv (fun i e => ∃ s22 s23, e = E57 s s0 s2 s4 s5 s6 s7 s8 s9 s10 s11 s12 s13 s14 s15 s16 s17 s18 s19 (.fz (.list vs)) s21 s22 s23) ⟨_, _, rfl⟩ ?_ ?_
    · rintro i d e nn hd ⟨s22, s23, rfl⟩ hn
      try trivial
      exact l10_run G (hv d (List.mem_of_getElem? hd)) fun s23 => hn _ ⟨_, _, rfl⟩
    · rintro e ⟨s22, s23, rfl⟩
      try trivial
      exact h _ _ _ _ _ _ _ _ _ _ _ _ _ _ _ _ _ _ _ _ _ _ ho
  rcases h20 with rfl | rfl
  · try trivial
    exact main
  · try trivial
    exact main
theorem vals_ok {xs ys : List Nat} (hx : ∀ x ∈ xs, x < 100) (hy : ∀ x ∈ ys, x < 100) (lx : xs.length ≤ 10) (ly : ys.length ≤ 10) : ∀ d ∈ [PyData.tuple [tN xs, tN ys], .none, .tuple [], .list [tN xs, tN ys], .tuple [tN xs], .tuple [.tuple [.int 0], .tuple []], .tuple [.tuple [], .tuple []]], Tm (2 ^ 30) 50 10000 d := by
  intro d hd
  have tx : Tm 100 1 10 (tN xs) := (Tms.nats hx).tup.mono (Nat.le_refl _) (Nat.le_refl _) lx
  have ty : Tm 100 1 10 (tN ys) := (Tms.nats hy).tup.mono (Nat.le_refl _) (Nat.le_refl _) ly
  have n0 : Tms 100 1 0 ([] : List D) := Tms.nil.mono (Nat.le_refl _) (Nat.zero_le _) (Nat.zero_le _)
  have two := Tms.cons tx (Tms.cons ty n0)
  simp only [List.mem_cons, List.not_mem_nil, or_false] at hd
  rcases hd with rfl | rfl | rfl | rfl | rfl | rfl | rfl
  · exact two.tup.mono (by decide) (by decide) (by decide)
  · exact ⟨rfl, by decide, by decide⟩
  · exact ⟨rfl, by decide, by decide⟩
  · exact two.lst.mono (by decide) (by decide) (by decide)
  · exact (Tms.cons tx n0).tup.mono (by decide) (by decide) (by decide)
  · exact ⟨by decide +kernel, by decide, by decide⟩
  · exact ⟨rfl, by decide, by decide⟩
theorem nats_of {acc : List D} (h : ∀ (i : Nat) (y : D), acc[i]? = some y → ∃ x : Nat, x < 100 ∧ y = PyData.int (x : Nat)) : ∃ l : List Nat, acc = nats l ∧ ∀ x ∈ l, x < 100 := by
  have h' : ∀ y ∈ acc, ∃ x : Nat, x < 100 ∧ y = PyData.int (x : Nat) := fun y hy => by
    obtain ⟨i, hi, rfl⟩ := List.getElem_of_mem hy
    exact h i _ (List.getElem?_eq_getElem hi)
  clear h
  induction acc with
  | nil => exact ⟨[], rfl, fun _ h => (nomatch h)⟩
  | cons a r ih =>
    obtain ⟨l, rfl, hl⟩ := ih fun y hy => h' y (List.mem_cons_of_mem _ hy)
    obtain ⟨x, hx, rfl⟩ := h' a List.mem_cons_self
    refine ⟨x :: l, rfl, fun z hz => ?_⟩
    rcases List.mem_cons.mp hz with rfl | hz
    · exact hx
    · exact hl z hz
theorem t8_run (G : Fs57 F) (hst : st ≤ s.most) (ho : OddS s2) (h : Nx57 s nx) :
    wS F b_law_t8 (E57 s s0 s2 (.fz (.int st)) (.fz (.list ((ltell s st).map twD))) s6 s7 s8 s9 s10 s11 s12 s13 s14 s15 s16 s17 s18 s19 s20 s21 s22 s23) ⟨nx, rt, bk⟩ := by
  have h8 := most_le s
  unfold b_law_t8
  try trivial
  refine ⟨⟨by omega, by omega⟩, ?_⟩
  rw [Int.toNat_natCast]
  refine comp_acc (fun e => ∃ s19, e = E57 s s0 s2 (.fz (.int st)) (.fz (.list ((ltell s st).map twD))) s6 s7 s8 s9 s10 s11 s12 s13 s14 s15 s16 s17 s18 s19 s20 s21 s22 s23) (fun _ y => ∃ x : Nat, x < 100 ∧ y = .int (x : Nat)) ⟨_, rfl⟩ ?_ ?_
  · rintro i d e nn hd ⟨s19, rfl⟩ hnn
    simp only [turnC, wipeE, List.set_cons_succ, List.set_cons_zero]
    try trivial
    refine G.pick 3 _ (by omega) (by omega) fun r r0 r1 => ?_
    rw [if_neg (by omega)] at r1
    try trivial
    exact hnn _ _ ⟨r.toNat, by omega, by rw [show ((r.toNat : Nat) : Int) = r by omega]⟩ ⟨_, rfl⟩
  rintro acc e lacc hacc ⟨s19, rfl⟩
  obtain ⟨xs, rfl, hxs⟩ := nats_of hacc
  rw [nats_len, rng_len] at lacc
  simp only [backE, List.getD_cons_succ, List.getD_cons_zero, List.set_cons_succ, List.set_cons_zero]
  try trivial
  refine ⟨fits1, by unfold Fits; rw [nats_len]; omega, ⟨by omega, by omega⟩, ?_⟩
  rw [Int.toNat_natCast]
  refine comp_acc (fun e => ∃ s19, e = E57 s s0 s2 (.fz (.int st)) (.fz (.list ((ltell s st).map twD))) s6 s7 s8 s9 s10 s11 s12 s13 s14 s15 s16 s17 (.fz (.tuple (nats xs))) s19 s20 s21 s22 s23) (fun _ y => ∃ x : Nat, x < 100 ∧ y = .int (x : Nat)) ⟨_, rfl⟩ ?_ ?_
  · rintro i d e nn hd ⟨s19, rfl⟩ hnn
    simp only [turnC, wipeE, List.set_cons_succ, List.set_cons_zero]
    try trivial
    refine G.pick 3 _ (by omega) (by omega) fun r r0 r1 => ?_
    rw [if_neg (by omega)] at r1
    try trivial
    exact hnn _ _ ⟨r.toNat, by omega, by rw [show ((r.toNat : Nat) : Int) = r by omega]⟩ ⟨_, rfl⟩
  rintro acc e lacc2 hacc2 ⟨s19, rfl⟩
  obtain ⟨ys, rfl, hys⟩ := nats_of hacc2
  rw [nats_len, rng_len] at lacc2
  simp only [backE, List.getD_cons_succ, List.getD_cons_zero, List.set_cons_succ, List.set_cons_zero]
  try trivial
  have shpL : Shp (.list ((ltell s st).map twD)) := (Tms.all (M := 100) (a := 2) (b := 19) (xs := (ltell s st).map twD) fun d hd => by
    obtain ⟨p, hp, rfl⟩ := List.mem_map.mp hd
    exact tell_tm hst hp).lst.shp (by decide) (by decide)
  refine ⟨fits2, fits0, fits1, fits0, fits2, fits0, fits0, fits2, by unfold Fits; omega, fits0, shpL, shp_nilL, ?_⟩
  rw [eqv_nilL]
  have e0 : PyData.int 0 :: nats xs = nats (0 :: xs) := rfl
  have ec : cut [PyData.tuple (PyData.int 0 :: nats xs), PyData.tuple (nats ys)] none (some 1) = [tN (0 :: xs)] := rfl
  have vok := vals_ok (xs := 0 :: xs) (ys := ys) (fun x hx => by
    rcases List.mem_cons.mp hx with rfl | hx
    · decide
    · exact hxs x hx) hys (by rw [List.length_cons]; omega) (by omega)
  rw [ec, e0]
  by_cases he : (ltell s st) = []
  · rw [if_neg (by rw [he]; simp)]
    exact t9_run G ho vok (.inl rfl) h
  · rw [if_pos (by simpa using he)]
    refine G.of _ _ (by simpa using he) (by rw [List.length_map]; have := tell_thou hst; omega) fun x hx => ?_
    obtain ⟨p, hp, rfl⟩ := List.mem_map.mp hx
    have tp := tell_tm hst hp
    rw [show twD p = .tuple [tN p.1, tN p.2] from rfl] at tp ⊢
    have t1 : Tm 100 1 19 (tN p.1) := (tp.tup'.mem (by simp))
    have t2 : Tm 100 1 19 (tN p.2) := (tp.tup'.mem (by simp))
    try trivial
    refine ⟨fits2, fits0, fits1, fits3, by unfold Fits; omega, by unfold Fits; omega, ⟨by omega, by omega⟩, ?_⟩
    rw [show (8 : Int).toNat = 8 from rfl]
    refine comp_acc (fun e => ∃ s2 s19, OddS s2 ∧ e = E57 s s0 s2 (.fz (.int st)) (.fz (.list ((ltell s st).map twD))) s6 s7 s8 s9 s10 s11 s12 s13 s14 s15 s16 s17 (.fz (.tuple [tN (0 :: xs), tN ys])) s19 (.ow (.list [.tuple [tN (0 :: xs), tN ys], .none, .tuple [], .list [tN (0 :: xs), tN ys], .tuple [tN (0 :: xs)], .tuple [.tuple [.int 0], .tuple []], .tuple [.tuple [], .tuple []], .tuple [tN p.1, tN p.2], .list [tN p.1, tN p.2], .tuple [lN p.1, tN p.2], .tuple [tN p.1, tN p.2, .tuple []]])) (.fz (.tuple [tN p.1, tN p.2])) s22 s23) (fun _ y => Tm (2 ^ 30) 50 10000 y) ⟨_, _, ho, rfl⟩ ?_ ?_
    · rintro i d e nn hd ⟨s2, s19, ho, rfl⟩ hnn
      simp only [turnC, wipeE, List.set_cons_succ, List.set_cons_zero]
      have tb : Tm (2 ^ 20) 2 19 (.tuple [tN p.1, tN p.2]) := tp.mono (by decide) (Nat.le_refl _) (Nat.le_refl _)
      rcases ho with rfl | rfl
      · try trivial
        refine G.bent (2 ^ 20) 19 _ oddL _ (Nat.le_refl _) (by omega) tb odd_ok fun r hr => ?_
        try trivial
        exact hnn _ _ (hr.mono (by decide) (by decide) (by decide)) ⟨_, _, .inr rfl, rfl⟩
      · try trivial
        refine G.bent (2 ^ 20) 19 _ oddL _ (Nat.le_refl _) (by omega) tb odd_ok fun r hr => ?_
        try trivial
        exact hnn _ _ (hr.mono (by decide) (by decide) (by decide)) ⟨_, _, .inr rfl, rfl⟩
    · rintro acc e lacc3 hacc3 ⟨s2, s19, ho, rfl⟩
      rw [rng_len] at lacc3
      simp only [backE, List.getD_cons_succ, List.getD_cons_zero, List.set_cons_succ, List.set_cons_zero]
      try trivial
      refine ⟨by unfold Fits; (try simp only [List.length_cons, List.length_nil]); omega, ?_⟩
      refine t9_run G ho (vs := [.tuple [tN (0 :: xs), tN ys], .none, .tuple [], .list [tN (0 :: xs), tN ys], .tuple [tN (0 :: xs)], .tuple [.tuple [.int 0], .tuple []], .tuple [.tuple [], .tuple []], .tuple [tN p.1, tN p.2], .list [tN p.1, tN p.2], .tuple [lN p.1, tN p.2], .tuple [tN p.1, tN p.2, .tuple []]] ++ acc) (fun d hd => ?_) (.inl rfl) h
      have n0 : Tms 100 1 0 ([] : List D) := Tms.nil.mono (Nat.le_refl _) (Nat.zero_le _) (Nat.zero_le _)
      have n1 : Tms 100 1 1 ([.tuple []] : List D) := (Tms.cons (b := 0) ⟨rfl, by decide, by decide⟩ n0).mono (Nat.le_refl _) (Nat.le_refl _) (by decide)
      rcases List.mem_append.mp hd with hd | hd
      · rcases List.mem_append.mp (show d ∈ [.tuple [tN (0 :: xs), tN ys], .none, .tuple [], .list [tN (0 :: xs), tN ys], .tuple [tN (0 :: xs)], .tuple [.tuple [.int 0], .tuple []], .tuple [.tuple [], .tuple []]] ++ [.tuple [tN p.1, tN p.2], .list [tN p.1, tN p.2], .tuple [lN p.1, tN p.2], .tuple [tN p.1, tN p.2, .tuple []]] from hd) with hd | hd
        · exact vok d hd
        · simp only [List.mem_cons, List.not_mem_nil, or_false] at hd
          rcases hd with rfl | rfl | rfl | rfl
          · exact tp.mono (by decide) (by decide) (by decide)
          · exact tp.tup'.lst.mono (by decide) (by decide) (by decide)
          · exact (Tms.cons (show Tm 100 1 19 (lN p.1) from t1.tup'.lst) (Tms.cons t2 n0)).tup.mono (by decide) (by decide) (by decide)
          · exact (Tms.cons t1 (Tms.cons t2 n1)).tup.mono (by decide) (by decide) (by decide)
      · obtain ⟨i, hi, rfl⟩ := List.getElem_of_mem hd
        exact hacc3 i _ (List.getElem?_eq_getElem hi)
theorem t7_run (G : Fs57 F) (hst : st ≤ s.most) (h1 : 1 ≤ n) (h2 : n ≤ 8) (ho : OddS s2) (h : Nx57 s nx) :
    wS F b_law_t7 (E57 s s0 s2 (.fz (.int st)) (.ow (.list ((ltell s st).map twD))) s6 s7 (.fz (.int n)) s9 s10 s11 s12 s13 s14 s15 s16 s17 s18 s19 s20 s21 s22 s23) ⟨nx, rt, bk⟩ := by
  have h8 := most_le s
  unfold b_law_t7
  try trivial
  refine comp_keep (fun e => ∃ s17, e = E57 s s0 s2 (.fz (.int st)) (.fz (.list ((ltell s st).map twD))) s6 s7 (.fz (.int n)) s9 s10 s11 s12 s13 s14 s15 s16 s17 s18 s19 s20 s21 s22 s23) (fun p => decide (maxN p.1 < n)) twD ⟨_, rfl⟩ ?_ ?_
  · rintro p e nn hp ⟨s17, rfl⟩ hnn
    have hpl := (ltellU_len (isort_perm.mem_iff.mp hp)).1
    simp only [turnC, wipeE, List.set_cons_succ, List.set_cons_zero]
    rw [show twD p = .tuple [tN p.1, tN p.2] from rfl]
    try trivial
    refine ⟨_, ints_nats _, by rw [List.length_map]; omega, fun m m1 m2 => ?_⟩
    rw [max_nats m1 m2]
    try trivial
    have := hnn _ ⟨.fz (twD p), rfl⟩
    by_cases hc : maxN p.1 < n
    · rw [if_pos (by simpa using hc)] at this
      rw [if_pos (by omega)]
      exact this
    · rw [if_neg (by simpa using hc)] at this
      rw [if_neg (by omega)]
      exact this
  · rintro e ⟨s17, rfl⟩
    simp only [backE, List.getD_cons_succ, List.getD_cons_zero, List.set_cons_succ, List.set_cons_zero]
    try trivial
    refine G.cnt s st n _ h1 h2 (by omega) ?_
    try trivial
    rw [if_neg (by rw [List.length_map, low_count hst h1 h2]; simp)]
    exact t8_run G hst ho h
theorem t6_run (G : Fs57 F) (hst : st ≤ s.most) (h1 : 1 ≤ n) (h2 : n ≤ 8) (hf : far ≤ 14) (ho : OddS s2) (h : Nx57 s nx) :
    wS F b_law_t6 (E57 s s0 s2 (.fz (.int st)) (.ow (.list ((ltell s st).map twD))) s6 s7 (.fz (.int n)) (.fz (.int far)) s10 s11 s12 s13 (.fz (swts s n)) (.fz (.int (lineN n (lev s) (dwn s) far 0 : Nat))) s16 s17 s18 s19 s20 s21 s22 s23) ⟨nx, rt, bk⟩ := by
  have ok := so_lw (s := s) h2
  unfold b_law_t6
  try trivial
  by_cases h7 : n < 7
  · rw [if_pos (by omega)]
    try trivial
    refine ⟨.inl (by decide), ?_⟩
    by_cases hf2 : far < 2 * n
    · rw [if_pos (by omega)]
      try trivial
      refine G.row n _ _ _ h1 (by omega) (fun t ht => ok.nx (by omega)) ?_
      try trivial
      refine ⟨far, ix_nat (by omega), fits2, ?_⟩
      have e : fr (rowW n (cst (lev s)) (cst (dwn s)) far) = .tuple [.int (lineN n (lev s) (dwn s) far 0 : Nat), .int 1] := by
        unfold rowW
        rw [line_cast, fr_nat]
      rw [e]
      have sp : Shp (.tuple [.int (lineN n (lev s) (dwn s) far 0 : Nat), .int 1]) := (Sps.cons Sp0.int (Sps.cons Sp0.int Sps.nil)).tup.shp (by decide)
      refine ⟨sp, sp, ?_⟩
      rw [if_neg (by simp [PyData.eqv, PyData.eqvAll])]
      exact t7_run G hst h1 h2 ho h
    · rw [if_neg (by omega)]
      exact t7_run G hst h1 h2 ho h
  · rw [if_neg (by omega)]
    exact t7_run G hst h1 h2 ho h
theorem t5_run (G : Fs57 F) (hst : st ≤ s.most) (h1 : 1 ≤ n) (h2 : n ≤ 8) (hf : far ≤ 14) (ho : OddS s2) (h : Nx57 s nx) :
    wS F b_law_t5 (E57 s s0 s2 (.fz (.int st)) (.ow (.list ((ltell s st).map twD))) s6 s7 (.fz (.int n)) (.fz (.int far)) s10 s11 s12 s13 (.fz (swts s n)) (.fz (.int (lineN n (lev s) (dwn s) far 0 : Nat))) s16 s17 s18 s19 s20 s21 s22 s23) ⟨nx, rt, bk⟩ := by
  have ok := so_lw (s := s) h2
  unfold b_law_t5
  try trivial
  by_cases h7 : n < 7
  · rw [if_pos (by omega)]
    try trivial
    by_cases hf2 : far < 12
    · rw [if_pos (by omega)]
      try trivial
      refine G.wnm n _ _ far _ h1 (by omega) (by omega) (fun t ht => ok.nx (by omega)) ?_
      try trivial
      refine ⟨0, ix_nat (i := 0) (by omega), fits2, ?_⟩
      have e : fr (lineW n (cst (lev s)) (cst (dwn s)) far 0) = .tuple [.int (lineN n (lev s) (dwn s) far 0 : Nat), .int 1] := by
        rw [line_cast, fr_nat]
      rw [e]
      have sp : Shp (.tuple [.int (lineN n (lev s) (dwn s) far 0 : Nat), .int 1]) := (Sps.cons Sp0.int (Sps.cons Sp0.int Sps.nil)).tup.shp (by decide)
      refine ⟨sp, sp, ?_⟩
      rw [if_neg (by simp [PyData.eqv, PyData.eqvAll])]
      exact t6_run G hst h1 h2 hf ho h
    · rw [if_neg (by omega)]
      exact t6_run G hst h1 h2 hf ho h
  · rw [if_neg (by omega)]
    exact t6_run G hst h1 h2 hf ho h
theorem t4_run (G : Fs57 F) (hst : st ≤ s.most) (h1 : 1 ≤ n) (h2 : n ≤ 8) (hf : far ≤ 14) (ho : OddS s2) (h : Nx57 s nx) :
    wS F b_law_t4 (E57 s s0 s2 (.fz (.int st)) (.ow (.list ((ltell s st).map twD))) s6 s7 (.fz (.int n)) (.fz (.int far)) (.fz (lN (mapN n (lev s)))) s11 (.fz (lN (mapN (n - 1) (dwn s)))) s13 (.fz (swts s n)) s15 s16 s17 s18 s19 s20 s21 s22 s23) ⟨nx, rt, bk⟩ := by
  have ok := so_lw (s := s) h2
  have sh := shows_nat (line_small ok h1 (t := far) (by omega))
  unfold b_law_t4
  try trivial
  refine G.num n _ _ far _ h1 (by omega) (by omega) ok ?_
  try trivial
  refine G.cnt s far n _ h1 h2 (by omega) ?_
  try trivial
  refine ⟨sh, sh, ?_⟩
  rw [if_neg (by simp)]
  exact t5_run G hst h1 h2 hf ho h
theorem t3_run (G : Fs57 F) (hst : st ≤ s.most) (ho : OddS s2) (h : Nx57 s nx) :
    wS F b_law_t3 (E57 s s0 s2 (.fz (.int st)) (.ow (.list ((ltell s st).map twD))) s6 s7 s8 s9 s10 s11 s12 s13 s14 s15 s16 s17 s18 s19 s20 s21 s22 s23) ⟨nx, rt, bk⟩ := by
  unfold b_law_t3
  try trivial
  refine G.pick 8 _ (by omega) (by omega) fun r r0 r1 => ?_
  try trivial
  refine G.pick 15 _ (by omega) (by omega) fun f f0 f1 => ?_
  rw [if_neg (by omega)] at r1 f1
  obtain ⟨far, rfl⟩ : ∃ q : Nat, f = q := ⟨f.toNat, by omega⟩
  generalize hz : (1 : Int) + r = z
  obtain ⟨n, rfl⟩ : ∃ q : Nat, z = q := ⟨z.toNat, by omega⟩
  have h1 : 1 ≤ n := by omega
  have h2 : n ≤ 8 := by omega
  try trivial
  refine ⟨fits2, ⟨by omega, by omega⟩, ?_⟩
  rw [Int.toNat_natCast]
  refine comp_map (fun e => ∃ s11, e = E57 s s0 s2 (.fz (.int st)) (.ow (.list ((ltell s st).map twD))) s6 s7 (.fz (.int n)) (.fz (.int far)) s10 s11 s12 s13 s14 s15 s16 s17 s18 s19 s20 s21 s22 s23) (fun i => .int (lev s i : Nat)) ⟨_, rfl⟩ ?_ ?_
  · rintro i d e nn hd ⟨s11, rfl⟩ hnn
    obtain ⟨hi, rfl⟩ := rng_get hd
    have ei : (0 : Int) + (i : Int) * 1 = i := by omega
    rw [ei]
    simp only [turnC, wipeE, List.set_cons_succ, List.set_cons_zero]
    try trivial
    refine G.lch s i i _ (by omega) (by omega) ?_
    rw [lch_lev]
    try trivial
    exact hnn _ ⟨_, rfl⟩
  rintro e ⟨s11, rfl⟩
  simp only [backE, List.getD_cons_succ, List.getD_cons_zero, List.set_cons_succ, List.set_cons_zero, rng_len]
  rw [show (List.range n).map (fun i => PyData.int (lev s i : Nat)) = nats (mapN n (lev s)) by unfold nats mapN; rw [List.map_map]; rfl]
  try trivial
  refine ⟨⟨by omega, by omega⟩, ?_⟩
  rw [show ((n : Int) - 1).toNat = n - 1 by omega]
  refine comp_map (fun e => ∃ s11, e = E57 s s0 s2 (.fz (.int st)) (.ow (.list ((ltell s st).map twD))) s6 s7 (.fz (.int n)) (.fz (.int far)) (.ow (lN (mapN n (lev s)))) s11 s12 s13 s14 s15 s16 s17 s18 s19 s20 s21 s22 s23) (fun i => .int (dwn s i : Nat)) ⟨_, rfl⟩ ?_ ?_
  · rintro i d e nn hd ⟨s11, rfl⟩ hnn
    obtain ⟨hi, rfl⟩ := rng_get hd
    have ei : (0 : Int) + (i : Int) * 1 = i := by omega
    rw [ei]
    simp only [turnC, wipeE, List.set_cons_succ, List.set_cons_zero]
    try trivial
    have := G.lch s (i + 1) i
    rw [lch_dwn] at this
    refine this _ (by omega) (by omega) ?_
    try trivial
    exact hnn _ ⟨_, rfl⟩
  rintro e ⟨s11, rfl⟩
  simp only [backE, List.getD_cons_succ, List.getD_cons_zero, List.set_cons_succ, List.set_cons_zero, rng_len]
  rw [show (List.range (n - 1)).map (fun i => PyData.int (dwn s i : Nat)) = nats (mapN (n - 1) (dwn s)) by unfold nats mapN; rw [List.map_map]; rfl]
  try trivial
  refine comp_all (l := mapN n (lev s)) (g := fun (x : Nat) => PyData.int (x : Nat)) (fun e => ∃ s11 s13, e = E57 s s0 s2 (.fz (.int st)) (.ow (.list ((ltell s st).map twD))) s6 s7 (.fz (.int n)) (.fz (.int far)) (.fz (lN (mapN n (lev s)))) s11 (.ow (lN (mapN (n - 1) (dwn s)))) s13 s14 s15 s16 s17 s18 s19 s20 s21 s22 s23) (fun (x : Nat) => .tuple [.int (x : Nat), .int 1]) ⟨_, _, rfl⟩ ?_ ?_
  · rintro x e nn hx ⟨s11, s13, rfl⟩ hnn
    simp only [turnC, wipeE, List.set_cons_succ, List.set_cons_zero]
    try trivial
    exact ⟨fits2, hnn _ ⟨_, _, rfl⟩⟩
  rintro e ⟨s11, s13, rfl⟩
  simp only [backE, List.getD_cons_succ, List.getD_cons_zero, List.set_cons_succ, List.set_cons_zero, rng_len]
  rw [map_fr]
  try trivial
  refine comp_all (l := mapN (n - 1) (dwn s)) (g := fun (x : Nat) => PyData.int (x : Nat)) (fun e => ∃ s11 s13, e = E57 s s0 s2 (.fz (.int st)) (.ow (.list ((ltell s st).map twD))) s6 s7 (.fz (.int n)) (.fz (.int far)) (.fz (lN (mapN n (lev s)))) s11 (.fz (lN (mapN (n - 1) (dwn s)))) s13 s14 s15 s16 s17 s18 s19 s20 s21 s22 s23) (fun (x : Nat) => .tuple [.int (x : Nat), .int 1]) ⟨_, _, rfl⟩ ?_ ?_
  · rintro x e nn hx ⟨s11, s13, rfl⟩ hnn
    simp only [turnC, wipeE, List.set_cons_succ, List.set_cons_zero]
    try trivial
    exact ⟨fits2, hnn _ ⟨_, _, rfl⟩⟩
  rintro e ⟨s11, s13, rfl⟩
  simp only [backE, List.getD_cons_succ, List.getD_cons_zero, List.set_cons_succ, List.set_cons_zero, rng_len]
  rw [map_fr]
  try trivial
  refine ⟨fits2, ?_⟩
  refine G.sow s n _ h1 (by omega) ?_
  try trivial
  have sh := swts_shows (s := s) h1 h2
  refine ⟨sh, sh, ?_⟩
  rw [if_neg (fun e => e rfl)]
  try trivial
  refine G.isw n _ _ _ h1 (by omega) (fun j hj => ?_) ?_
  · unfold cst
    have := dwn_pos (s := s) (j := j)
    intro e
    have : ((dwn s j : Nat) : Rat) = ((0 : Nat) : Rat) := e
    have := Rat.natCast_inj.mp this
    omega
  try trivial
  exact t4_run G hst h1 h2 (by omega) ho h
theorem pick_ite {c : Bool} {K : Bool → D → Prop} {H1 : Hold K} {H2 : Hold K} (P : PickF F i__law_pick) (h : ∀ st : Nat, st ≤ (if c = true then 6 else 8) → K false (.int (st : Nat))) : if c = true then callF F 17 [.int 7] K H1 else callF F 17 [.int 9] K H2 := by
  cases c with
  | true =>
    refine go_pos rfl (P 7 _ (by omega) (by omega) fun r r0 r1 => ?_)
    rw [if_neg (by omega)] at r1
    obtain ⟨st, rfl⟩ : ∃ q : Nat, r = q := ⟨r.toNat, by omega⟩
    exact h st (by rw [if_pos rfl]; omega)
  | false =>
    refine go_neg (fun e => by cases e) (P 9 _ (by omega) (by omega) fun r r0 r1 => ?_)
    rw [if_neg (by omega)] at r1
    obtain ⟨st, rfl⟩ : ∃ q : Nat, r = q := ⟨r.toNat, by omega⟩
    exact h st (by rw [if_neg (fun e => by cases e)]; omega)
theorem l1_run (G : Fs57 F) (ho : OddS s2) (h : Nx57 s nx) :
    wS F b_law_l1 (E57 s s0 s2 s4 s5 s6 s7 s8 s9 s10 s11 s12 s13 s14 s15 s16 s17 s18 s19 s20 s21 s22 s23) ⟨nx, rt, bk⟩ := by
  unfold b_law_l1
  try trivial
  refine ⟨fits2, And.intro rfl (And.intro rfl ?_)⟩
  refine pick_ite G.pick fun st hst => ?_
  have hst : st ≤ s.most := by
    refine Nat.le_trans hst (Nat.le_of_eq ?_)
    cases s <;> rfl
  try trivial
  refine G.ltw s st _ hst ?_
  try trivial
  refine G.tws s st _ hst ?_
  rw [tell_eq hst]
  try trivial
  have sh := tell_shows hst
  refine ⟨sh, sh, ?_⟩
  rw [if_neg (by simp)]
  unfold b_law_t2
  try trivial
  refine G.pick 21 _ (by omega) (by omega) fun q q0 q1 => ?_
  rw [if_neg (by omega)] at q1
  obtain ⟨k, rfl⟩ : ∃ z : Nat, q = z := ⟨q.toNat, by omega⟩
  try trivial
  have a1 := G.lch s k k
  have a2 := G.lch s (k + 1) k
  rw [lch_lev] at a1
  rw [lch_dwn] at a2
  refine a1 _ (by omega) (by omega) ?_
  try trivial
  refine a2 _ (by omega) (by omega) ?_
  try trivial
  refine ⟨fits2, ?_⟩
  refine G.lev s k _ (by omega) ?_
  try trivial
  refine G.dwn s k _ (by omega) ?_
  try trivial
  have l1 : lev s k ≤ 1000 := by cases s <;> simp only [lev] <;> omega
  have l2 : dwn s k ≤ 1000 := by
    cases s <;> simp only [Ev.dwn]
    · omega
    · omega
    · omega
    · have : (k + 1) * (k + 1) ≤ 21 * 21 := Nat.mul_le_mul (by omega) (by omega)
      omega
  have sk : Shows (.list [.int (lev s k : Nat), .int (dwn s k : Nat)]) := by
    have := (Tms.nats (M := 2000) (l := [lev s k, dwn s k]) fun x hx => by
      simp only [List.mem_cons, List.not_mem_nil, or_false] at hx
      omega).lst
    exact this.shows (by decide) (by decide) (by simp)
  refine ⟨fits2, sk, sk, ?_⟩
  rw [if_neg (by simp)]
  exact t3_run G hst ho h
theorem end1 : lineN 2 (lev .pairing) (dwn .pairing) 8 0 = 1 := by decide +kernel
theorem end2 : lineN 4 (lev .row) (dwn .row) 5 0 = 120 := by decide +kernel
theorem t11_run (G : Fs57 F) {s3 : Sl} : wS F b_law_t11 [s0, .src, s2, s3, s4, s5, s6, s7, s8, s9, s10, s11, s12, s13, s14, s15, s16, s17, s18, s19, s20, s21, s22, s23] lawEn := by
  unfold b_law_t11 lawEn
  try trivial
  refine G.cnt .pairing 8 2 _ (by omega) (by omega) (by omega) ?_
  rw [end1]
  try trivial
  refine go_pos rfl ?_
  try trivial
  refine G.cnt .row 5 4 _ (by omega) (by omega) (by omega) ?_
  rw [end2]
  (try trivial) <;> rfl
theorem law57 (G : Fs57 F) : wS F b_law (lawEnv n_law.length) lawEn := by
  show wS F b_law [.no, .src, .no, .no, .no, .no, .no, .no, .no, .no, .no, .no, .no, .no, .no, .no, .no, .no, .no, .no, .no, .no, .no, .no] lawEn
  unfold b_law lawEn
  try trivial
  refine ⟨fits0, fits1, fits1, fits2, by unfold Fits; omega, by unfold Fits; omega, ?_⟩
  have e : [PyData.str "bracket", .str "pairing", .str "parting", .str "row"] = [So.bracket, .pairing, .parting, .row].map So.d := rfl
  show loopS F (Tg.s 3) b_law_l1 ([So.bracket, .pairing, .parting, .row].map So.d) _ _ _
  refine loop_fold (fun (a : Unit) _ => a) (fun _ e => ∃ s0 s2 s3 s4 s5 s6 s7 s8 s9 s10 s11 s12 s13 s14 s15 s16 s17 s18 s19 s20 s21 s22 s23, OddS s2 ∧ e = [s0, .src, s2, s3, s4, s5, s6, s7, s8, s9, s10, s11, s12, s13, s14, s15, s16, s17, s18, s19, s20, s21, s22, s23]) (s0 := ()) ⟨_, _, _, _, _, _, _, _, _, _, _, _, _, _, _, _, _, _, _, _, _, _, _, .inl rfl, rfl⟩ ?_ ?_
  · rintro pre s post e nn _ ⟨s0, s2, s3, s4, s5, s6, s7, s8, s9, s10, s11, s12, s13, s14, s15, s16, s17, s18, s19, s20, s21, s22, s23, ho, rfl⟩ hn
    try trivial
    exact l1_run G ho fun _ _ _ _ _ _ _ _ _ _ _ _ _ _ _ _ _ _ _ _ _ _ h2 => hn _ ⟨_, _, _, _, _, _, _, _, _, _, _, _, _, _, _, _, _, _, _, _, _, _, _, h2, rfl⟩
  · rintro e ⟨s0, s2, s3, s4, s5, s6, s7, s8, s9, s10, s11, s12, s13, s14, s15, s16, s17, s18, s19, s20, s21, s22, s23, ho, rfl⟩
    exact t11_run G
end
end Ev
namespace Ev
open PySem PySem.Spec PyProof.Rows L2
/-- the source at a later time -/
structure SrcAt (H : Hp) (p c : Addr) (H' : Hp) (cs : List Int) (l m t : Int) : Prop where
  hp : H' p = some (.dK (sd c l m t))
  hc : H' c = some (.lst (cs.map V.int))
  hz : cs.length ≤ sizeLine
  pos : ∀ z ∈ cs, 0 ≤ z
  l0 : 0 ≤ l
  m0 : 0 ≤ m
  m1 : m < 2147483647
  t0 : 0 ≤ t
  keep : ∀ a o, H a = some o → a ≠ p → a ≠ c → H' a = some o
section
variable {H H' : Hp} {p c : Addr} {cs : List Int} {l m t z : Int}
theorem SrcAt.src (S : SrcAt H p c H' cs l m t) (n : p ≠ c) : SrcOk H' p c := ⟨n, cs, l, m, t, S.hp, S.hc, S.hz, S.pos, S.l0, S.m0, S.m1, S.t0⟩
theorem SrcAt.cells (S : SrcAt H p c H' cs l m t) : DGet H' p (.str "cells") (some (.ref c)) := by
  have g := DGet.k (k := .inr "cells") S.hp
  rw [sd_cells] at g
  exact g
theorem SrcAt.left (S : SrcAt H p c H' cs l m t) : DGet H' p (.str "left") (some (.int l)) := by
  have g := DGet.k (k := .inr "left") S.hp
  rw [sd_left] at g
  exact g
theorem SrcAt.mixed (S : SrcAt H p c H' cs l m t) : DGet H' p (.str "mixed") (some (.int m)) := by
  have g := DGet.k (k := .inr "mixed") S.hp
  rw [sd_mixed] at g
  exact g
theorem SrcAt.turn (S : SrcAt H p c H' cs l m t) : DGet H' p (.str "turn") (some (.int t)) := by
  have g := DGet.k (k := .inr "turn") S.hp
  rw [sd_turn] at g
  exact g
theorem SrcAt.putLeft (S : SrcAt H p c H' cs l m t) (n : p ≠ c) (h : 0 ≤ z) : ∃ H2, DPut H' p (.str "left") (.int z) H2 ∧ SrcAt H p c H2 cs z m t := by
  have g := DPut.k (k := .inr "left") (v := .int z) S.hp (small1000 (by show 4 ≤ 1000; decide))
  rw [sd_pl] at g
  exact ⟨_, g, upd_same, (upd_ne (Ne.symm n)).trans S.hc, S.hz, S.pos, h, S.m0, S.m1, S.t0, fun a o e h1 h2 => (upd_ne h1).trans (S.keep a o e h1 h2)⟩
theorem SrcAt.putMixed (S : SrcAt H p c H' cs l m t) (n : p ≠ c) (h : 0 ≤ z) (h2 : z < 2147483647) : ∃ H2, DPut H' p (.str "mixed") (.int z) H2 ∧ SrcAt H p c H2 cs l z t := by
  have g := DPut.k (k := .inr "mixed") (v := .int z) S.hp (small1000 (by show 4 ≤ 1000; decide))
  rw [sd_pm] at g
  exact ⟨_, g, upd_same, (upd_ne (Ne.symm n)).trans S.hc, S.hz, S.pos, S.l0, h, h2, S.t0, fun a o e h1 h2 => (upd_ne h1).trans (S.keep a o e h1 h2)⟩
theorem SrcAt.putTurn (S : SrcAt H p c H' cs l m t) (n : p ≠ c) (h : 0 ≤ z) : ∃ H2, DPut H' p (.str "turn") (.int z) H2 ∧ SrcAt H p c H2 cs l m z := by
  have g := DPut.k (k := .inr "turn") (v := .int z) S.hp (small1000 (by show 4 ≤ 1000; decide))
  rw [sd_pt] at g
  exact ⟨_, g, upd_same, (upd_ne (Ne.symm n)).trans S.hc, S.hz, S.pos, S.l0, S.m0, S.m1, h, fun a o e h1 h2 => (upd_ne h1).trans (S.keep a o e h1 h2)⟩
theorem SrcAt.pop (S : SrcAt H p c H' cs l m t) (n : p ≠ c) : SrcAt H p c (upd H' c (.lst (cs.map V.int).dropLast)) cs.dropLast l m t :=
  ⟨(upd_ne n).trans S.hp, by rw [List.map_dropLast]; exact upd_same, by rw [List.length_dropLast]; exact Nat.le_trans (Nat.sub_le _ _) S.hz, fun z h => S.pos z ((List.dropLast_subset _) h), S.l0, S.m0, S.m1, S.t0, fun a o e h1 h2 => (upd_ne h2).trans (S.keep a o e h1 h2)⟩
theorem iteD {c A B : Prop} [Decidable c] (h : c) (a : A) : if decide c = true then A else B := by
  rw [decide_eq_true h]; exact iteT a
theorem iteN {c A B : Prop} [Decidable c] (h : ¬ c) (b : B) : if decide c = true then A else B := by
  rw [decide_eq_false h]; exact iteF b
end
theorem sd_merge {c : Addr} {l m t : Int} : mergeK [] (sd c l m t) = sd c l m t := by
  simp [mergeK, putK, sd, k_cl, k_cm, k_ct, k_lm, k_lt, k_mt]
/-- the readings of the tail -/
def dG (x : Str) : TE := tDGet (tVar 0) (tC (.str x))
def rInt : List V → Hp → VK → Prop := fun xs H Q => (∃ i, xs = [.int i] ∧ Q (.int i) H) ∨ ∃ k, xs = [.bl k] ∧ Q (.int (if k then 1 else 0)) H
def rMx : List V → Hp → VK → Prop := fun xs H Q => ∃ i j, xs = [.int i, .int j] ∧ Q (.int (if j > i then j else i)) H
def tMax : TE := tCB rMx (tCons (tC (.int 1)) (tCons (tVar 1) tNil))
def tInt (t : TE) : TE := tCB rInt (tCons t tNil)
def oAdd : TE → TE → TE := tOp (rI0 fun i j => .int (i + j))
def oMul : TE → TE → TE := tOp (rI MulOk fun i j => .int (i * j))
def oMod : TE → TE → TE := tOp (rI (fun _ j => 0 < j) fun i j => .int (i % j))
def oDiv : TE → TE → TE := tOp (rI CDivW fun i j => .int (i / j))
def pickTail : TS := tSeq (tAsg (dG "left") (gName 2)) (tSeq (tIfS (tOr (tTest (tOp (rI0 fun i j => .bl (decide (i < j))) (tVar 1) (tC (.int 2)))) (tTest (tOp (rI0 fun i j => .bl (decide (j < i))) (tVar 2) (tC (.int 1)))))
    (tSeq (sDPut (tVar 0) (tC (.str "left")) (oDiv (tVar 2) tMax)) (tRet (oMod (tInt (tVar 2)) tMax))) tNext)
  (tSeq (sDPut (tVar 0) (tC (.str "turn")) (oAdd (dG "turn") (tC (.int 1))))
  (tSeq (tAsg (oMod (tInt (oAdd (dG "mixed") (oMul (dG "turn") (tC (.int 104729))))) (tC (.int 998244353))) (gName 3))
  (tSeq (tAsg (oMod (tInt (oAdd (oMul (tVar 3) (tVar 3)) (oMul (dG "turn") (tC (.int 17))))) (tC (.int 2147483647))) (gName 3))
  (tSeq (sDPut (tVar 0) (tC (.str "mixed")) (tVar 3)) (tRet (oMod (tInt (oDiv (tVar 3) (tC (.int 16)))) (tVar 1))))))))
theorem divOk {i j : Int} (h : 0 < j) (h2 : j ≤ 1000000) : CDivW i j := wide_div (b := 20) h (by omega) (by decide) (by decide)
theorem mulR {i j : Int} (h : j.natAbs < 2 ^ 64) : MulOk i j := .inr (.inl h)
theorem mulL {i j : Int} (h : i.natAbs < 2 ^ 64) : MulOk i j := .inl h
section
variable {H H1 : Hp} {p c : Addr} {cs : List Int} {l m t many : Int} {Q : VK}
theorem pick_tail (n : p ≠ c) (hm : 0 ≤ many ∧ many ≤ 1000000) (q : ∀ (r : Int) (H' : Hp), 0 ≤ r → r < (if many < 1 then 1 else many) → (∀ a o, H a = some o → a ≠ p → a ≠ c → H' a = some o) → SrcOk H' p c → Q (.int r) H') (S : SrcAt H p c H1 cs l m t) :
    pickTail { nx := fun _ H' => Q .non H', rt := Q } [some (.ref p), some (.int many), none, none] H1 := by
  have mx : (if many > 1 then many else (1 : Int)) = if many < 1 then 1 else many := by split <;> split <;> omega
  have mx0 : 0 < (if many > 1 then many else (1 : Int)) := by split <;> omega
  have mx1 : (if many > 1 then many else (1 : Int)) ≤ 1000000 := by split <;> omega
  refine ⟨_, rfl, p, _, rfl, S.left, _, rfl, _, _, rfl, rfl, _, rfl, ?_⟩
  have ways : many < 2 ∨ 1 < l → tSeq (sDPut (tVar 0) (tC (.str "left")) (oDiv (tVar 2) tMax)) (tRet (oMod (tInt (tVar 2)) tMax)) { nx := fun _ H' => Q .non H', rt := Q } [some (.ref p), some (.int many), some (.int l), none] H1 := fun _ => by
    obtain ⟨H2, g, S2⟩ := S.putLeft (z := l / (if many > 1 then many else 1)) n (Int.ediv_nonneg S.l0 (Int.le_of_lt mx0))
    refine ⟨_, rfl, _, rfl, _, _, rfl, _, _, rfl, rfl, divOk mx0 mx1, _, rfl, p, H2, rfl, g, ?_⟩
    refine ⟨_, rfl, .inl ⟨_, rfl, _, rfl, _, _, rfl, _, _, rfl, rfl, mx0, ?_⟩⟩
    exact q _ _ (Int.emod_nonneg _ (Int.ne_of_gt mx0)) (by rw [← mx]; exact Int.emod_lt_of_pos _ mx0) S2.keep (S2.src n)
  have draw3 : ∀ (H2 : Hp), SrcAt H p c H2 cs l m (t + 1) → ¬ many < 2 → ∀ y : Int, 0 ≤ y → y < 2147483647 → tSeq (sDPut (tVar 0) (tC (.str "mixed")) (tVar 3)) (tRet (oMod (tInt (oDiv (tVar 3) (tC (.int 16)))) (tVar 1))) { nx := fun _ H' => Q .non H', rt := Q } [some (.ref p), some (.int many), some (.int l), some (.int y)] H2 := fun H2 S2 hm2 y e3 e4 => by
    obtain ⟨H3, g3, S3⟩ := S2.putMixed (z := y) n e3 e4
    refine ⟨_, rfl, _, rfl, p, H3, rfl, g3, ?_⟩
    have hm3 : 0 < many := by omega
    have hlt : (y / 16) % many < many := Int.emod_lt_of_pos _ hm3
    refine ⟨_, rfl, _, _, rfl, rfl, divOk (by decide) (by decide), .inl ⟨_, rfl, _, rfl, _, _, rfl, rfl, hm3, ?_⟩⟩
    exact q _ _ (Int.emod_nonneg _ (by omega)) (by rw [if_neg (by omega)]; exact hlt) S3.keep (S3.src n)
  have draw2 : ∀ (H2 : Hp), SrcAt H p c H2 cs l m (t + 1) → ¬ many < 2 → ∀ x : Int, 0 ≤ x → x < 998244353 → tSeq (tAsg (oMod (tInt (oAdd (oMul (tVar 3) (tVar 3)) (oMul (dG "turn") (tC (.int 17))))) (tC (.int 2147483647))) (gName 3))
      (tSeq (sDPut (tVar 0) (tC (.str "mixed")) (tVar 3)) (tRet (oMod (tInt (oDiv (tVar 3) (tC (.int 16)))) (tVar 1)))) { nx := fun _ H' => Q .non H', rt := Q } [some (.ref p), some (.int many), some (.int l), some (.int x)] H2 := fun H2 S2 hm2 x e1 e2 => by
    have e0 : (0 : Int) < 2147483647 := by decide
    refine ⟨_, rfl, _, rfl, _, _, rfl, rfl, mulL (by omega), _, rfl, p, _, rfl, S2.turn, _, _, rfl, rfl, mulR (by decide), _, _, rfl, rfl, .inl ⟨_, rfl, _, _, rfl, rfl, e0, ?_⟩⟩
    exact draw3 H2 S2 hm2 _ (Int.emod_nonneg _ (by decide)) (Int.emod_lt_of_pos _ (by decide))
  have draw : ¬ many < 2 → tSeq (sDPut (tVar 0) (tC (.str "turn")) (oAdd (dG "turn") (tC (.int 1))))
      (tSeq (tAsg (oMod (tInt (oAdd (dG "mixed") (oMul (dG "turn") (tC (.int 104729))))) (tC (.int 998244353))) (gName 3))
      (tSeq (tAsg (oMod (tInt (oAdd (oMul (tVar 3) (tVar 3)) (oMul (dG "turn") (tC (.int 17))))) (tC (.int 2147483647))) (gName 3))
      (tSeq (sDPut (tVar 0) (tC (.str "mixed")) (tVar 3)) (tRet (oMod (tInt (oDiv (tVar 3) (tC (.int 16)))) (tVar 1)))))) { nx := fun _ H' => Q .non H', rt := Q } [some (.ref p), some (.int many), some (.int l), none] H1 := fun hm2 => by
    obtain ⟨H2, g2, S2⟩ := S.putTurn (z := t + 1) n (by have := S.t0; omega)
    have e0 : (0 : Int) < 998244353 := by decide
    refine ⟨_, rfl, p, _, rfl, S.turn, _, _, rfl, rfl, _, rfl, p, H2, rfl, g2, ?_⟩
    refine ⟨_, rfl, p, _, rfl, S2.mixed, _, rfl, p, _, rfl, S2.turn, _, _, rfl, rfl, mulR (by decide), _, _, rfl, rfl, .inl ⟨_, rfl, _, _, rfl, rfl, e0, ?_⟩⟩
    exact draw2 H2 S2 hm2 _ (Int.emod_nonneg _ (by decide)) (Int.emod_lt_of_pos _ (by decide))
  by_cases h2 : many < 2
  · exact iteD h2 (iteT (ways (.inl h2)))
  · refine iteN h2 ⟨_, rfl, _, _, rfl, rfl, _, rfl, ?_⟩
    by_cases h3 : 1 < l
    · exact iteD h3 (ways (.inr h3))
    · exact iteN h3 (draw h2)
end
section
variable {P : Program} {w : World} {K : PySem.W.Frag} {mg : Str → Option Value} {base : Heap}
theorem scPick : FnScope ["source", "many", "left", "mixed"] ["source", "many"] (defScope s__law_pick) := ⟨rfl, rfl, rfl, by decide +kernel, rfl, by decide +kernel, by decide +kernel⟩
theorem ok_pick {f : Addr} {fd : FuncData} {params : Arguments} (F : FunD K "_law_pick" "_law_pick" params (defBody s__law_pick) (defScope s__law_pick) [] [] f fd) (bl : ∀ x ∈ bltNames, mg (Str.ofString x) = none) (k : Nat) : FnOk P w K mg base CX0 (k + 1) f fd ["source", "many"] spPick := by
  refine F.ok scPick (fun vs H Q E h => ?_) (fun cdv A outer s H vs Q E hr h => ?_)
  · obtain ⟨p, c, m, rfl, _⟩ := h
    rfl
  · obtain ⟨p, c, many, rfl, src, hm, q⟩ := h
    have hu := hu_of hr
    have bMax : mg "max" = none := bl "max" (by decide)
    have bInt : mg "int" = none := bl "int" (by decide)
    have bLen : mg "len" = none := bl "len" (by decide)
    refine ⟨_, PSs.nox (pss_cons (ps_while PassesOwn.never (PW.pt (pw_and (pt_cmpR op_gt (pv 1) pe_int (nomark _)) (pw_and (pt_cmpR op_lt (pe_dget hu (pv 0) pe_str (fun _ _ => rfl)) pe_int (nomark _))
        (pw_and1 (pt_cmpR op_gt (pe_callB call_len_seq rfl bLen rfl (pa_cons (pe_dget hu (pv 0) pe_str (fun _ _ => rfl)) pa_nil)) pe_int (nomark _))))))
        (pss_one (ps_dput hu (pv 0) pe_str (pe_bm0 PySem.F.plainAttrs_list PySem.F.slot_list_pop PySem.F.type_list_pop mt_pop (pe_dget hu (pv 0) pe_str (fun _ _ => rfl))) rfl)))
      (pss_cons (ps_set (i := 2) scPick.nd rfl (Or.inl rfl) (pe_dget hu (pv 0) pe_str (fun _ _ => rfl)))
      (pss_cons (ps_if (PW.pt (pw_or (pt_cmpR op_lt (pv 1) pe_int (nomark _)) (pw_or1 (pt_cmpR op_gt (pv 2) pe_int (nomark _)))))
        (pss_cons (ps_dput hu (pv 0) pe_str (pe_op op_fdivW (pv 2) (pe_callB (call_max2 rfl) rfl bMax rfl (pa_cons pe_int (pa_cons (pv 1) pa_nil)))) rfl)
          (pss_one (ps_ret (pe_op op_mod (pe_callTy call_int1 rfl bInt rfl (pa_cons (pv 2) pa_nil)) (pe_callB (call_max2 rfl) rfl bMax rfl (pa_cons pe_int (pa_cons (pv 1) pa_nil))))))) pss_nil)
      (pss_cons (ps_dput hu (pv 0) pe_str (pe_op op_add (pe_dget hu (pv 0) pe_str (fun _ _ => rfl)) pe_int) rfl)
      (pss_cons (ps_set (i := 3) scPick.nd rfl (Or.inl rfl) (pe_op op_mod (pe_callTy call_int1 rfl bInt rfl (pa_cons (pe_op op_add (pe_dget hu (pv 0) pe_str (fun _ _ => rfl)) (pe_op op_mulA (pe_dget hu (pv 0) pe_str (fun _ _ => rfl)) pe_int)) pa_nil)) pe_int))
      (pss_cons (ps_set (i := 3) scPick.nd rfl (Or.inl rfl) (pe_op op_mod (pe_callTy call_int1 rfl bInt rfl (pa_cons (pe_op op_add (pe_op op_mulA (pv 3) (pv 3)) (pe_op op_mulA (pe_dget hu (pv 0) pe_str (fun _ _ => rfl)) pe_int)) pa_nil)) pe_int))
      (pss_cons (ps_dput hu (pv 0) pe_str (pv 3) rfl)
      (pss_one (ps_ret (pe_op op_mod (pe_callTy call_int1 rfl bInt rfl (pa_cons (pe_op op_fdivW (pv 3) pe_int) pa_nil)) (pv 1))))))))))), ?_⟩
    obtain ⟨npc, cs, l, m, t, hp, hc, hz, hpos, hl, hm1, hm2, ht⟩ := src
    refine ⟨fun n σ H' => σ = [some (.ref p), some (.int many), none, none] ∧ ∃ cs l m t, n = cs.length ∧ SrcAt H p c H' cs l m t, ⟨cs.length, rfl, cs, l, m, t, rfl, hp, hc, hz, hpos, hl, hm1, hm2, ht, fun _ _ e _ _ => e⟩, ?_⟩
    rintro n σ H1 ⟨rfl, cs, l, m, t, rfl, S⟩
    have rest : pickTail { nx := fun _ H' => Q .non H', rt := Q } [some (.ref p), some (.int many), none, none] H1 := pick_tail npc hm q S
    refine ⟨_, rfl, _, _, rfl, rfl, _, rfl, ?_⟩
    by_cases h1 : 1 < many
    · refine iteD h1 ⟨_, rfl, p, _, rfl, S.left, _, _, rfl, rfl, _, rfl, ?_⟩
      by_cases h2 : l < 2
      · refine iteD h2 ⟨_, rfl, p, _, rfl, S.cells, c, _, rfl, .inl (SqL.of S.hc), _, _, rfl, rfl, _, rfl, ?_⟩
        cases cs with
        | nil => exact rest
        | cons z cs =>
          have hl : ((z :: cs).map V.int)[((z :: cs).map V.int).length - 1]? = some (.int ((z :: cs).getLast (by simp))) := by
            rw [← List.getLast?_eq_getElem?, List.getLast?_map, List.getLast?_eq_some_getLast (by simp)]; rfl
          have S2 := S.pop npc
          obtain ⟨H3, g3, S3⟩ := S2.putLeft (z := (z :: cs).getLast (by simp)) npc (S.pos _ (List.getLast_mem _))
          have hpos : (0 : Int) < (((z :: cs).map V.int).length : Int) := by rw [List.length_map, List.length_cons]; omega
          refine iteD hpos ⟨_, fun _ _ z => z, ?_⟩
          refine ⟨_, rfl, p, _, rfl, S.cells, .inl ⟨rfl, _, SqL.of S.hc⟩, c, _, _, rfl, rfl, S.hc, hl, _, rfl, p, H3, rfl, g3, ?_⟩
          exact ⟨cs.length, by simp, rfl, _, _, _, _, (by simp), S3⟩
      · exact iteN h2 rest
    · exact iteN h1 rest
theorem scSource : FnScope ["script", "mixed", "cell"] ["script"] (defScope s__law_source) := ⟨rfl, rfl, rfl, by decide +kernel, rfl, by decide +kernel, by decide +kernel⟩
theorem ok_source {f : Addr} {fd : FuncData} {params : Arguments} (F : FunD K "_law_source" "_law_source" params (defBody s__law_source) (defScope s__law_source) [] [] f fd) (bl : ∀ x ∈ bltNames, mg (Str.ofString x) = none) (k : Nat) : FnOk P w K mg base CX0 (k + 1) f fd ["script"] (spSrc K) := by
  refine F.ok scSource (fun vs H Q E h => ?_) (fun cdv A outer s H vs Q E hr h => ?_)
  · obtain ⟨a, ns, rfl, _⟩ := h
    rfl
  · obtain ⟨a, ns, rfl, hS, hl, q⟩ := h
    have bInt : mg "int" = none := bl "int" (by decide)
    have bAbs : mg "abs" = none := bl "abs" (by decide)
    refine ⟨_, PSs.nox (pss_cons (ps_set (i := 1) scSource.nd rfl (Or.inl rfl) pe_int)
      (pss_cons (ps_for PassesOwn.never rfl (pi_list (pv 0)) (pg_name (i := 2) scSource.nd rfl (Or.inl rfl))
        (pss_one (ps_set (i := 1) scSource.nd rfl (Or.inl rfl) (pe_op op_mod (pe_callTy call_int1 rfl bInt rfl (pa_cons (pe_op op_add (pe_op op_add (pe_op op_mulA (pv 1) pe_int) (pe_op op_mulA (pv 2) pe_int)) pe_int) pa_nil)) pe_int))))
      (pss_one (ps_ret (pe_disp (pps_cons pe_str (pe_revL (pe_lc (own := [("cell", 2)]) rfl scSource.nd (pi_list (pv 0)) (blkOk_by (show blkC ["script", "mixed", "cell"] (defScope s__law_source) _ [("cell", 2)] = true by decide +kernel)) (fun _ _ _ _ _ => pg_name (i := 2) scSource.nd rfl (Or.inl rfl)) (fun _ _ _ _ _ => pts_nil) (fun _ _ _ _ _ => pe_callB call_abs rfl bAbs rfl (pa_cons (pv 2) pa_nil))))
        (pps_cons pe_str pe_int (pps_cons pe_str (pv 1) (pps_cons pe_str pe_int pps_nil)))) rfl rfl (by simp) (by decide)))))), ?_⟩
    have hl' : (ns.map V.int).length ≤ 63 := by rw [List.length_map]; exact hl
    -- the mixing
    refine ⟨_, rfl, a, rfl, ⟨_, hS⟩, for_list (K := K) (a := a) (xs := ns.map V.int) (fun i σ H2 => H2 = H ∧ ∃ (m : Int) (v : Option V), σ = [some (.ref a), some (.int m), v] ∧ 0 ≤ m ∧ m < 2147483647)
      ⟨rfl, 11, none, rfl, by decide, by decide⟩ (fun i σ H2 _ ⟨e, _⟩ => e ▸ hS) ?_ ?_⟩
    · rintro i y σ H2 hi ⟨rfl, m, v, rfl, m0, m1⟩
      obtain ⟨z, rfl⟩ : ∃ z, y = V.int z := by
        rw [List.getElem?_map] at hi
        cases e : ns[i]? with
        | none => rw [e] at hi; cases hi
        | some z => rw [e] at hi; exact ⟨z, (Option.some.inj hi).symm⟩
      have e0 : (0 : Int) < 2147483629 := by decide
      refine ⟨_, rfl, _, _, rfl, rfl, mulR (by decide), _, rfl, _, _, rfl, rfl, mulR (by decide), _, _, rfl, rfl, _, _, rfl, rfl, .inl ⟨_, rfl, _, _, rfl, rfl, e0, ?_⟩⟩
      exact ⟨rfl, _, _, rfl, Int.emod_nonneg _ (by decide), Int.lt_trans (Int.emod_lt_of_pos _ e0) (by decide)⟩
    · rintro σ H2 ⟨rfl, m, v, rfl, m0, m1⟩
      -- the dict, the cells
      intro p np
      have hS1 : SqL K (upd H2 p (.dK [])) a (ns.map V.int) := Same.seq (fun b o e => (upd_ne (ne_of_none e np)).trans e) hS
      refine ⟨_, rfl, a, rfl, ⟨_, hS1⟩, fun D nD => ?_⟩
      have nD0 : H2 D = none := by
        by_cases h : D = p
        · subst h; rw [upd_same] at nD; cases nD
        · rw [upd_ne h] at nD; exact nD
      have npD : p ≠ D := fun z => by subst z; rw [upd_same] at nD; cases nD
      refine lc_list (K := K) (a := a) (xs := ns.map V.int) (fun i H3 => ∃ cs : List Int, H3 = upd (upd H2 p (.dK [])) D (.lst (cs.map V.int)) ∧ cs.length ≤ i ∧ ∀ z ∈ cs, 0 ≤ z) ⟨[], rfl, Nat.le_refl _, by simp⟩ (fun i H3 _ ⟨cs, e, _⟩ => ?_) ?_ ?_
      · subst e
        exact Same.seq (fun b o e => (upd_ne (ne_of_none e nD)).trans e) hS1
      · rintro i y H3 hi ⟨cs, rfl, hcl, hcp⟩
        obtain ⟨z, rfl⟩ : ∃ z, y = V.int z := by
          rw [List.getElem?_map] at hi
          cases e : ns[i]? with
          | none => rw [e] at hi; cases hi
          | some z => rw [e] at hi; exact ⟨z, (Option.some.inj hi).symm⟩
        have hil := (List.getElem?_eq_some_iff.mp hi).1
        refine ⟨rfl, ?_⟩
        simp only [tYes, if_true]
        refine ⟨_, rfl, _, rfl, _, upd_same, small1000 (by rw [List.length_map]; omega), cs ++ [if z < 0 then -z else z], ?_, by simp; omega, fun u hu => ?_⟩
        · rw [upd_upd, List.map_append]; rfl
        · rcases List.mem_append.mp hu with hu | hu
          · exact hcp u hu
          · rw [List.mem_singleton.mp hu]; split <;> omega
      · rintro H3 ⟨cs, rfl, hcl, hcp⟩
        refine ⟨D, _, rfl, SqL.of upd_same, fun c nc => ?_⟩
        have ncD : c ≠ D := fun z => by subst z; rw [upd_same] at nc; cases nc
        rw [upd_ne ncD] at nc
        have ncp : c ≠ p := fun z => by subst z; rw [upd_same] at nc; cases nc
        rw [upd_ne ncp] at nc
        refine ⟨_, rfl, ?_⟩
        refine ⟨by rw [upd_ne (Ne.symm ncp), upd_ne npD, upd_same], sd c 1 m 0, rfl, (by show 4 ≤ 15; decide), ?_⟩
        rw [sd_merge]
        refine q p c _ (fun b o e => ?_) np nc ⟨Ne.symm ncp, cs.reverse, 1, m, 0, upd_same, ?_, ?_, fun z hz => hcp z (by simpa using hz), by decide, m0, m1, by decide⟩
        · rw [upd_ne (ne_of_none e np), upd_ne (ne_of_none e nc), upd_ne (ne_of_none e nD0), upd_ne (ne_of_none e np)]; exact e
        · rw [upd_ne ncp, upd_same, List.map_reverse]
        · rw [List.length_reverse]; exact Nat.le_of_lt (small1000 (by omega))
end
def tbF (f : Nat) : Option Tb := tbl[f]?
section
variable {P : Program} {w : World} {K : PySem.W.Frag} {h : Heap} {mg : Str → Option Value} {base : Heap}
theorem wdR (X : K.In h) (G : h.Ns mainGlobals mg) (c : He.SaysD faD fnD K) (hgcd : tn.gcd = true → mg "gcd" = some (.builtin "math.gcd")) : Wd mg tn := by
  refine ⟨fun x hx => ?_, hgcd⟩
  simp only [bltNames, List.mem_cons, List.not_mem_nil, or_false] at hx
  rcases hx with rfl | rfl | rfl | rfl | rfl | rfl | rfl | rfl | rfl | rfl | rfl | rfl | rfl | rfl | rfl | rfl | rfl
  · exact He.free_ok X G (c.fact 28 (f := .free "len") rfl)
  · exact He.free_ok X G (c.fact 29 (f := .free "tuple") rfl)
  · exact He.free_ok X G (c.fact 30 (f := .free "list") rfl)
  · exact He.free_ok X G (c.fact 31 (f := .free "int") rfl)
  · exact He.free_ok X G (c.fact 32 (f := .free "abs") rfl)
  · exact He.free_ok X G (c.fact 33 (f := .free "repr") rfl)
  · exact He.free_ok X G (c.fact 34 (f := .free "all") rfl)
  · exact He.free_ok X G (c.fact 35 (f := .free "sum") rfl)
  · exact He.free_ok X G (c.fact 36 (f := .free "max") rfl)
  · exact He.free_ok X G (c.fact 37 (f := .free "min") rfl)
  · exact He.free_ok X G (c.fact 38 (f := .free "isinstance") rfl)
  · exact He.free_ok X G (c.fact 39 (f := .free "sorted") rfl)
  · exact He.free_ok X G (c.fact 40 (f := .free "range") rfl)
  · exact He.free_ok X G (c.fact 41 (f := .free "str") rfl)
  · exact He.free_ok X G (c.fact 42 (f := .free "bool") rfl)
  · exact He.free_ok X G (c.fact 43 (f := .free "enumerate") rfl)
  · exact He.free_ok X G (c.fact 44 (f := .free "zip") rfl)
theorem df_lowest (X : K.In h) (G : h.Ns mainGlobals mg) (c : He.SaysD faD fnD K) : DfOk K mg tn "lowest" false f_lowest := by
  obtain ⟨fd, F⟩ := c.def_ 0 (d := d_lowest) rfl
  exact ⟨⟨_, fd, _, _, _, _, n_lowest, ["number", "parts"], He.glo_ok X G (c.fact 0 (f := .glo "lowest") rfl), F, F.bindsN (fun _ _ _ _ _ _ us hl => match us, hl with | [_, _], _ => rfl), sc_lowest, rfl, by decide, rfl, ck_lowest⟩, rfl, by decide⟩
theorem df_is_fraction (X : K.In h) (G : h.Ns mainGlobals mg) (c : He.SaysD faD fnD K) : DfOk K mg tn "is_fraction" false f_is_fraction := by
  obtain ⟨fd, F⟩ := c.def_ 1 (d := d_is_fraction) rfl
  exact ⟨⟨_, fd, _, _, _, _, n_is_fraction, ["value"], He.glo_ok X G (c.fact 1 (f := .glo "is_fraction") rfl), F, F.bindsN (fun _ _ _ _ _ _ us hl => match us, hl with | [_], _ => rfl), sc_is_fraction, rfl, by decide, rfl, ck_is_fraction⟩, rfl, by decide⟩
theorem df_fraction_sum (X : K.In h) (G : h.Ns mainGlobals mg) (c : He.SaysD faD fnD K) : DfOk K mg tn "fraction_sum" false f_fraction_sum := by
  obtain ⟨fd, F⟩ := c.def_ 2 (d := d_fraction_sum) rfl
  exact ⟨⟨_, fd, _, _, _, _, n_fraction_sum, ["one", "other"], He.glo_ok X G (c.fact 2 (f := .glo "fraction_sum") rfl), F, F.bindsN (fun _ _ _ _ _ _ us hl => match us, hl with | [_, _], _ => rfl), sc_fraction_sum, rfl, by decide, rfl, ck_fraction_sum⟩, rfl, by decide⟩
theorem df_fraction_times (X : K.In h) (G : h.Ns mainGlobals mg) (c : He.SaysD faD fnD K) : DfOk K mg tn "fraction_times" false f_fraction_times := by
  obtain ⟨fd, F⟩ := c.def_ 3 (d := d_fraction_times) rfl
  exact ⟨⟨_, fd, _, _, _, _, n_fraction_times, ["one", "other"], He.glo_ok X G (c.fact 3 (f := .glo "fraction_times") rfl), F, F.bindsN (fun _ _ _ _ _ _ us hl => match us, hl with | [_, _], _ => rfl), sc_fraction_times, rfl, by decide, rfl, ck_fraction_times⟩, rfl, by decide⟩
theorem df_is_fraction_tuple (X : K.In h) (G : h.Ns mainGlobals mg) (c : He.SaysD faD fnD K) : DfOk K mg tn "is_fraction_tuple" false f_is_fraction_tuple := by
  obtain ⟨fd, F⟩ := c.def_ 4 (d := d_is_fraction_tuple) rfl
  exact ⟨⟨_, fd, _, _, _, _, n_is_fraction_tuple, ["value"], He.glo_ok X G (c.fact 4 (f := .glo "is_fraction_tuple") rfl), F, F.bindsN (fun _ _ _ _ _ _ us hl => match us, hl with | [_], _ => rfl), sc_is_fraction_tuple, rfl, by decide, rfl, ck_is_fraction_tuple⟩, rfl, by decide⟩
theorem df_is_weights (X : K.In h) (G : h.Ns mainGlobals mg) (c : He.SaysD faD fnD K) : DfOk K mg tn "is_weights" false f_is_weights := by
  obtain ⟨fd, F⟩ := c.def_ 5 (d := d_is_weights) rfl
  exact ⟨⟨_, fd, _, _, _, _, n_is_weights, ["value"], He.glo_ok X G (c.fact 5 (f := .glo "is_weights") rfl), F, F.bindsN (fun _ _ _ _ _ _ us hl => match us, hl with | [_], _ => rfl), sc_is_weights, rfl, by decide, rfl, ck_is_weights⟩, rfl, by decide⟩
theorem df_is_level_way (X : K.In h) (G : h.Ns mainGlobals mg) (c : He.SaysD faD fnD K) : DfOk K mg tn "is_level_way" false f_is_level_way := by
  obtain ⟨fd, F⟩ := c.def_ 6 (d := d_is_level_way) rfl
  exact ⟨⟨_, fd, _, _, _, _, n_is_level_way, ["value"], He.glo_ok X G (c.fact 6 (f := .glo "is_level_way") rfl), F, F.bindsN (fun _ _ _ _ _ _ us hl => match us, hl with | [_], _ => rfl), sc_is_level_way, rfl, by decide, rfl, ck_is_level_way⟩, rfl, by decide⟩
theorem df_next_way_numbers (X : K.In h) (G : h.Ns mainGlobals mg) (c : He.SaysD faD fnD K) : DfOk K mg tn "next_way_numbers" false f_next_way_numbers := by
  obtain ⟨fd, F⟩ := c.def_ 7 (d := d_next_way_numbers) rfl
  exact ⟨⟨_, fd, _, _, _, _, n_next_way_numbers, ["weights", "line"], He.glo_ok X G (c.fact 7 (f := .glo "next_way_numbers") rfl), F, F.bindsN (fun _ _ _ _ _ _ us hl => match us, hl with | [_, _], _ => rfl), sc_next_way_numbers, rfl, by decide, rfl, ck_next_way_numbers⟩, rfl, by decide⟩
theorem df_way_numbers (X : K.In h) (G : h.Ns mainGlobals mg) (c : He.SaysD faD fnD K) : DfOk K mg tn "way_numbers" false f_way_numbers := by
  obtain ⟨fd, F⟩ := c.def_ 8 (d := d_way_numbers) rfl
  exact ⟨⟨_, fd, _, _, _, _, n_way_numbers, ["weights", "steps"], He.glo_ok X G (c.fact 8 (f := .glo "way_numbers") rfl), F, F.bindsN (fun _ _ _ _ _ _ us hl => match us, hl with | [_, _], _ => rfl), sc_way_numbers, rfl, by decide, rfl, ck_way_numbers⟩, rfl, by decide⟩
theorem df_row_of_weights (X : K.In h) (G : h.Ns mainGlobals mg) (c : He.SaysD faD fnD K) : DfOk K mg tn "row_of_weights" false f_row_of_weights := by
  obtain ⟨fd, F⟩ := c.def_ 9 (d := d_row_of_weights) rfl
  exact ⟨⟨_, fd, _, _, _, _, n_row_of_weights, ["weights"], He.glo_ok X G (c.fact 9 (f := .glo "row_of_weights") rfl), F, F.bindsN (fun _ _ _ _ _ _ us hl => match us, hl with | [_], _ => rfl), sc_row_of_weights, rfl, by decide, rfl, ck_row_of_weights⟩, rfl, by decide⟩
theorem df_level_choices (X : K.In h) (G : h.Ns mainGlobals mg) (c : He.SaysD faD fnD K) : DfOk K mg tn "level_choices" false f_level_choices := by
  obtain ⟨fd, F⟩ := c.def_ 10 (d := d_level_choices) rfl
  exact ⟨⟨_, fd, _, _, _, _, n_level_choices, ["sort", "k"], He.glo_ok X G (c.fact 10 (f := .glo "level_choices") rfl), F, F.bindsN (fun _ _ _ _ _ _ us hl => match us, hl with | [_, _], _ => rfl), sc_level_choices, rfl, by decide, rfl, ck_level_choices⟩, rfl, by decide⟩
theorem df_down_choices (X : K.In h) (G : h.Ns mainGlobals mg) (c : He.SaysD faD fnD K) : DfOk K mg tn "down_choices" false f_down_choices := by
  obtain ⟨fd, F⟩ := c.def_ 11 (d := d_down_choices) rfl
  exact ⟨⟨_, fd, _, _, _, _, n_down_choices, ["sort", "k"], He.glo_ok X G (c.fact 11 (f := .glo "down_choices") rfl), F, F.bindsN (fun _ _ _ _ _ _ us hl => match us, hl with | [_, _], _ => rfl), sc_down_choices, rfl, by decide, rfl, ck_down_choices⟩, rfl, by decide⟩
theorem df_step_choices (X : K.In h) (G : h.Ns mainGlobals mg) (c : He.SaysD faD fnD K) : DfOk K mg tn "step_choices" false f_step_choices := by
  obtain ⟨fd, F⟩ := c.def_ 12 (d := d_step_choices) rfl
  exact ⟨⟨_, fd, _, _, _, _, n_step_choices, ["sort", "here", "late"], He.glo_ok X G (c.fact 12 (f := .glo "step_choices") rfl), F, F.bindsN (fun _ _ _ _ _ _ us hl => match us, hl with | [_, _, _], _ => rfl), sc_step_choices, rfl, by decide, rfl, ck_step_choices⟩, rfl, by decide⟩
theorem df_is_told_way (X : K.In h) (G : h.Ns mainGlobals mg) (c : He.SaysD faD fnD K) : DfOk K mg tn "is_told_way" false f_is_told_way := by
  obtain ⟨fd, F⟩ := c.def_ 13 (d := d_is_told_way) rfl
  exact ⟨⟨_, fd, _, _, _, _, n_is_told_way, ["sort", "value"], He.glo_ok X G (c.fact 13 (f := .glo "is_told_way") rfl), F, F.bindsN (fun _ _ _ _ _ _ us hl => match us, hl with | [_, _], _ => rfl), sc_is_told_way, rfl, by decide, rfl, ck_is_told_way⟩, rfl, by decide⟩
theorem df_told_ways (X : K.In h) (G : h.Ns mainGlobals mg) (c : He.SaysD faD fnD K) : DfOk K mg tn "told_ways" false f_told_ways := by
  obtain ⟨fd, F⟩ := c.def_ 14 (d := d_told_ways) rfl
  exact ⟨⟨_, fd, _, _, _, _, n_told_ways, ["sort", "steps"], He.glo_ok X G (c.fact 14 (f := .glo "told_ways") rfl), F, F.bindsN (fun _ _ _ _ _ _ us hl => match us, hl with | [_, _], _ => rfl), sc_told_ways, rfl, by decide, rfl, ck_told_ways⟩, rfl, by decide⟩
theorem df_sort_weights (X : K.In h) (G : h.Ns mainGlobals mg) (c : He.SaysD faD fnD K) : DfOk K mg tn "sort_weights" false f_sort_weights := by
  obtain ⟨fd, F⟩ := c.def_ 15 (d := d_sort_weights) rfl
  exact ⟨⟨_, fd, _, _, _, _, n_sort_weights, ["sort", "n"], He.glo_ok X G (c.fact 15 (f := .glo "sort_weights") rfl), F, F.bindsN (fun _ _ _ _ _ _ us hl => match us, hl with | [_, _], _ => rfl), sc_sort_weights, rfl, by decide, rfl, ck_sort_weights⟩, rfl, by decide⟩
theorem df_told_way_count (X : K.In h) (G : h.Ns mainGlobals mg) (c : He.SaysD faD fnD K) : DfOk K mg tn "told_way_count" false f_told_way_count := by
  obtain ⟨fd, F⟩ := c.def_ 16 (d := d_told_way_count) rfl
  exact ⟨⟨_, fd, _, _, _, _, n_told_way_count, ["sort", "steps", "n"], He.glo_ok X G (c.fact 16 (f := .glo "told_way_count") rfl), F, F.bindsN (fun _ _ _ _ _ _ us hl => match us, hl with | [_, _, _], _ => rfl), sc_told_way_count, rfl, by decide, rfl, ck_told_way_count⟩, rfl, by decide⟩
theorem df__law_of (X : K.In h) (G : h.Ns mainGlobals mg) (c : He.SaysD faD fnD K) : DfOk K mg tn "_law_of" true f__law_of := by
  obtain ⟨fd, F⟩ := c.def_ 19 (d := d__law_of) rfl
  exact ⟨⟨_, fd, _, _, _, _, n__law_of, ["source", "some"], He.glo_ok X G (c.fact 19 (f := .glo "_law_of") rfl), F, F.bindsN (fun _ _ _ _ _ _ us hl => match us, hl with | [_, _], _ => rfl), sc__law_of, rfl, by decide, rfl, ck__law_of⟩, rfl, by decide⟩
theorem df__law_is_int (X : K.In h) (G : h.Ns mainGlobals mg) (c : He.SaysD faD fnD K) : DfOk K mg tn "_law_is_int" false f__law_is_int := by
  obtain ⟨fd, F⟩ := c.def_ 20 (d := d__law_is_int) rfl
  exact ⟨⟨_, fd, _, _, _, _, n__law_is_int, ["value"], He.glo_ok X G (c.fact 20 (f := .glo "_law_is_int") rfl), F, F.bindsN (fun _ _ _ _ _ _ us hl => match us, hl with | [_], _ => rfl), sc__law_is_int, rfl, by decide, rfl, ck__law_is_int⟩, rfl, by decide⟩
theorem df__law_choices (X : K.In h) (G : h.Ns mainGlobals mg) (c : He.SaysD faD fnD K) : DfOk K mg tn "_law_choices" false f__law_choices := by
  obtain ⟨fd, F⟩ := c.def_ 21 (d := d__law_choices) rfl
  exact ⟨⟨_, fd, _, _, _, _, n__law_choices, ["sort", "here", "late"], He.glo_ok X G (c.fact 21 (f := .glo "_law_choices") rfl), F, F.bindsN (fun _ _ _ _ _ _ us hl => match us, hl with | [_, _, _], _ => rfl), sc__law_choices, rfl, by decide, rfl, ck__law_choices⟩, rfl, by decide⟩
theorem df__law_ways (X : K.In h) (G : h.Ns mainGlobals mg) (c : He.SaysD faD fnD K) : DfOk K mg tn "_law_ways" false f__law_ways := by
  obtain ⟨fd, F⟩ := c.def_ 22 (d := d__law_ways) rfl
  exact ⟨⟨_, fd, _, _, _, _, n__law_ways, ["steps"], He.glo_ok X G (c.fact 22 (f := .glo "_law_ways") rfl), F, F.bindsN (fun _ _ _ _ _ _ us hl => match us, hl with | [_], _ => rfl), sc__law_ways, rfl, by decide, rfl, ck__law_ways⟩, rfl, by decide⟩
theorem df__law_told_ways (X : K.In h) (G : h.Ns mainGlobals mg) (c : He.SaysD faD fnD K) : DfOk K mg tn "_law_told_ways" false f__law_told_ways := by
  obtain ⟨fd, F⟩ := c.def_ 23 (d := d__law_told_ways) rfl
  exact ⟨⟨_, fd, _, _, _, _, n__law_told_ways, ["sort", "steps"], He.glo_ok X G (c.fact 23 (f := .glo "_law_told_ways") rfl), F, F.bindsN (fun _ _ _ _ _ _ us hl => match us, hl with | [_, _], _ => rfl), sc__law_told_ways, rfl, by decide, rfl, ck__law_told_ways⟩, rfl, by decide⟩
theorem df__law_is_told (X : K.In h) (G : h.Ns mainGlobals mg) (c : He.SaysD faD fnD K) : DfOk K mg tn "_law_is_told" false f__law_is_told := by
  obtain ⟨fd, F⟩ := c.def_ 24 (d := d__law_is_told) rfl
  exact ⟨⟨_, fd, _, _, _, _, n__law_is_told, ["sort", "value"], He.glo_ok X G (c.fact 24 (f := .glo "_law_is_told") rfl), F, F.bindsN (fun _ _ _ _ _ _ us hl => match us, hl with | [_, _], _ => rfl), sc__law_is_told, rfl, by decide, rfl, ck__law_is_told⟩, rfl, by decide⟩
theorem df__law_numbers (X : K.In h) (G : h.Ns mainGlobals mg) (c : He.SaysD faD fnD K) : DfOk K mg tn "_law_numbers" false f__law_numbers := by
  obtain ⟨fd, F⟩ := c.def_ 25 (d := d__law_numbers) rfl
  exact ⟨⟨_, fd, _, _, _, _, n__law_numbers, ["levels", "downs", "steps"], He.glo_ok X G (c.fact 25 (f := .glo "_law_numbers") rfl), F, F.bindsN (fun _ _ _ _ _ _ us hl => match us, hl with | [_, _, _], _ => rfl), sc__law_numbers, rfl, by decide, rfl, ck__law_numbers⟩, rfl, by decide⟩
theorem df__law_bent (X : K.In h) (G : h.Ns mainGlobals mg) (c : He.SaysD faD fnD K) : DfOk K mg tn "_law_bent" true f__law_bent := by
  obtain ⟨fd, F⟩ := c.def_ 26 (d := d__law_bent) rfl
  exact ⟨⟨_, fd, _, _, _, _, n__law_bent, ["source", "value", "odd"], He.glo_ok X G (c.fact 26 (f := .glo "_law_bent") rfl), F, F.bindsN (fun _ _ _ _ _ _ us hl => match us, hl with | [_, _, _], _ => rfl), sc__law_bent, rfl, by decide, rfl, ck__law_bent⟩, rfl, by decide⟩
theorem fn_pick (X : K.In h) (G : h.Ns mainGlobals mg) (c : He.SaysD faD fnD K) (wd : Wd mg tn) : FnT P w K mg base "_law_pick" true pickF := by
  obtain ⟨fd, F⟩ := c.def_ 18 (d := d__law_pick) rfl
  refine ⟨⟨2, fun k => ⟨_, fd, ["source", "many"], He.glo_ok X G (c.fact 18 (f := .glo "_law_pick") rfl), F.kp, F.bindsN (fun _ _ _ _ _ _ us hl => match us, hl with | [_, _], _ => rfl), ((ok_pick F wd.bl k).imp fun vs H Q E h => pick_sp h).toG⟩, fun ds k h => ?_⟩, by decide⟩
  obtain ⟨m, rfl, _⟩ := h
  rfl
theorem tokR (X : K.In h) (G : h.Ns mainGlobals mg) (c : He.SaysD faD fnD K) (hgcd : tn.gcd = true → mg "gcd" = some (.builtin "math.gcd")) (sr : base.NoSeer) (tr : P.given.tree = none) : Tok P w K mg base tn tbF := by
  have wd := wdR X G c hgcd
  refine ⟨wd, sr, tr, fun f x s hf => ?_⟩
  match f, hf with
  | 0, hf => cases (show some (("lowest" : Str), false) = some (x, s) from hf); exact .inl ⟨_, rfl, df_lowest X G c⟩
  | 1, hf => cases (show some (("is_fraction" : Str), false) = some (x, s) from hf); exact .inl ⟨_, rfl, df_is_fraction X G c⟩
  | 2, hf => cases (show some (("fraction_sum" : Str), false) = some (x, s) from hf); exact .inl ⟨_, rfl, df_fraction_sum X G c⟩
  | 3, hf => cases (show some (("fraction_times" : Str), false) = some (x, s) from hf); exact .inl ⟨_, rfl, df_fraction_times X G c⟩
  | 4, hf => cases (show some (("is_fraction_tuple" : Str), false) = some (x, s) from hf); exact .inl ⟨_, rfl, df_is_fraction_tuple X G c⟩
  | 5, hf => cases (show some (("is_weights" : Str), false) = some (x, s) from hf); exact .inl ⟨_, rfl, df_is_weights X G c⟩
  | 6, hf => cases (show some (("is_level_way" : Str), false) = some (x, s) from hf); exact .inl ⟨_, rfl, df_is_level_way X G c⟩
  | 7, hf => cases (show some (("next_way_numbers" : Str), false) = some (x, s) from hf); exact .inl ⟨_, rfl, df_next_way_numbers X G c⟩
  | 8, hf => cases (show some (("way_numbers" : Str), false) = some (x, s) from hf); exact .inl ⟨_, rfl, df_way_numbers X G c⟩
  | 9, hf => cases (show some (("row_of_weights" : Str), false) = some (x, s) from hf); exact .inl ⟨_, rfl, df_row_of_weights X G c⟩
  | 10, hf => cases (show some (("level_choices" : Str), false) = some (x, s) from hf); exact .inl ⟨_, rfl, df_level_choices X G c⟩
  | 11, hf => cases (show some (("down_choices" : Str), false) = some (x, s) from hf); exact .inl ⟨_, rfl, df_down_choices X G c⟩
  | 12, hf => cases (show some (("step_choices" : Str), false) = some (x, s) from hf); exact .inl ⟨_, rfl, df_step_choices X G c⟩
  | 13, hf => cases (show some (("is_told_way" : Str), false) = some (x, s) from hf); exact .inl ⟨_, rfl, df_is_told_way X G c⟩
  | 14, hf => cases (show some (("told_ways" : Str), false) = some (x, s) from hf); exact .inl ⟨_, rfl, df_told_ways X G c⟩
  | 15, hf => cases (show some (("sort_weights" : Str), false) = some (x, s) from hf); exact .inl ⟨_, rfl, df_sort_weights X G c⟩
  | 16, hf => cases (show some (("told_way_count" : Str), false) = some (x, s) from hf); exact .inl ⟨_, rfl, df_told_way_count X G c⟩
  | 17, hf => cases (show some (("_law_pick" : Str), true) = some (x, s) from hf); exact .inr ⟨_, rfl, fn_pick X G c wd⟩
  | 18, hf => cases (show some (("_law_of" : Str), true) = some (x, s) from hf); exact .inl ⟨_, rfl, df__law_of X G c⟩
  | 19, hf => cases (show some (("_law_is_int" : Str), false) = some (x, s) from hf); exact .inl ⟨_, rfl, df__law_is_int X G c⟩
  | 20, hf => cases (show some (("_law_choices" : Str), false) = some (x, s) from hf); exact .inl ⟨_, rfl, df__law_choices X G c⟩
  | 21, hf => cases (show some (("_law_ways" : Str), false) = some (x, s) from hf); exact .inl ⟨_, rfl, df__law_ways X G c⟩
  | 22, hf => cases (show some (("_law_told_ways" : Str), false) = some (x, s) from hf); exact .inl ⟨_, rfl, df__law_told_ways X G c⟩
  | 23, hf => cases (show some (("_law_is_told" : Str), false) = some (x, s) from hf); exact .inl ⟨_, rfl, df__law_is_told X G c⟩
  | 24, hf => cases (show some (("_law_numbers" : Str), false) = some (x, s) from hf); exact .inl ⟨_, rfl, df__law_numbers X G c⟩
  | 25, hf => cases (show some (("_law_bent" : Str), true) = some (x, s) from hf); exact .inl ⟨_, rfl, df__law_bent X G c⟩
  | n + 26, hf => exact nomatch (show (none : Option (Str × Bool)) = some (x, s) from (List.getElem?_eq_none (l := nms) (i := n + 26) (by show 26 ≤ n + 26; omega)).symm.trans hf)
theorem factsR {f : Addr} (X : K.In h) (G : h.Ns mainGlobals mg) (hfa : mg "law" = some (.ref f)) (c : He.SaysD faD fnD K) (hgcd : tn.gcd = true → mg "gcd" = some (.builtin "math.gcd")) (tr : P.given.tree = none) (data : wS (callN tbF 9) b_law (lawEnv n_law.length) lawEn) :
    ∃ fd : FuncData, (∀ (s : Shared) (v : Value), BindsTo s fd ⟨[v], []⟩ [("script", v)]) ∧ ∀ base : Heap, K.In base → base.Ns mainGlobals mg → base.NoSeer → FnG P w K mg base 42 f fd ["script"] (spLaw K) := by
  obtain ⟨fd, F⟩ := c.def_ 27 (d := d_law) rfl
  obtain ⟨fdS, FS⟩ := c.def_ 17 (d := d__law_source) rfl
  have e := hfa.symm.trans (He.glo_ok X G (c.fact 27 (f := .glo "law") rfl))
  cases e
  have b := FunD.bindsA (ps := ["script"]) F fun _ _ _ _ _ _ us hl => match us, hl with | [_], _ => rfl
  have bS : Binds K fdS ["script"] [] := FS.bindsN fun _ _ _ _ _ _ us hl => match us, hl with | [_], _ => rfl
  have wd := wdR X G c hgcd
  refine ⟨fd, fun s v => b s [v] rfl, fun base _ _ sr => ?_⟩
  exact law_fn (rest := (defBody s_law).drop 1) (tokR X G c hgcd sr tr) F sc_law rfl rfl rfl (by first | exact .inl rfl | exact .inr rfl) rfl rfl (fun k => ok_source FS wd.bl k) bS (He.glo_ok X G (c.fact 17 (f := .glo "_law_source") rfl)) FS.kp ck_law data
end
/-! the data -/
local macro_rules | `(tactic| trivial) => `(tactic| ((try simp only [run, frame, List.map, List.replicate, Nat.reduceAdd, Nat.reduceSub, List.length_cons, List.length_nil, Bool.false_eq_true, if_false, if_true, List.nil_append, List.cons_append, true_and]); simp only [↓it_tF, ↓bd_fr, ↓idx_fr0, ↓idx_fr1, ↓i_tF, ↓i_lF, ↓u_ltF, ↓u_llF, ↓at2_0, ↓at2_1, fr0, fr1, ↓w_k, ↓w_vf0, ↓w_vf1, ↓w_vf2, ↓w_vf3, ↓w_vf4, ↓w_vf5, ↓w_vf6, ↓w_vf7, ↓w_vf8, ↓w_vf9, ↓w_vf10, ↓w_vf11, ↓w_vf12, ↓w_vf13, ↓w_vf14, ↓w_vf15, ↓w_vf16, ↓w_vf17, ↓w_vf18, ↓w_vf19, ↓w_vf20, ↓w_vf21, ↓w_vf22, ↓w_vf23, ↓w_vo0, ↓w_vo1, ↓w_vo2, ↓w_vo3, ↓w_vo4, ↓w_vo5, ↓w_vo6, ↓w_vo7, ↓w_vo8, ↓w_vo9, ↓w_vo10, ↓w_vo11, ↓w_vo12, ↓w_vo13, ↓w_vo14, ↓w_vo15, ↓w_vo16, ↓w_vo17, ↓w_vo18, ↓w_vo19, ↓w_vo20, ↓w_vo21, ↓w_vo22, ↓w_vo23, ↓w_mf0, ↓w_mf1, ↓w_mf2, ↓w_mf3, ↓w_mf4, ↓w_mf5, ↓w_mf6, ↓w_mf7, ↓w_mf8, ↓w_mf9, ↓w_mf10, ↓w_mf11, ↓w_mf12, ↓w_mf13, ↓w_mf14, ↓w_mf15, ↓w_mf16, ↓w_mf17, ↓w_mf18, ↓w_mf19, ↓w_mf20, ↓w_mf21, ↓w_mf22, ↓w_mf23, ↓w_mo0, ↓w_mo1, ↓w_mo2, ↓w_mo3, ↓w_mo4, ↓w_mo5, ↓w_mo6, ↓w_mo7, ↓w_mo8, ↓w_mo9, ↓w_mo10, ↓w_mo11, ↓w_mo12, ↓w_mo13, ↓w_mo14, ↓w_mo15, ↓w_mo16, ↓w_mo17, ↓w_mo18, ↓w_mo19, ↓w_mo20, ↓w_mo21, ↓w_mo22, ↓w_mo23, ↓w_op, ↓w_neg, ↓w_cmp, ↓w_ch2, ↓w_isN, ↓w_notN, ↓w_isB, ↓w_notB, ↓w_and, ↓w_or, ↓w_not, ↓w_ite, ↓w_nil, ↓w_cons, ↓w_star, ↓w_tup, ↓w_lst, ↓w_idx, ↓w_slc, ↓w_revL, ↓w_b1, ↓w_b2max2, ↓w_b2min2, ↓w_b2gcd, ↓w_b2indexL, ↓w_b2indexT, ↓w_dic, ↓w_dget, ↓w_dgetd, ↓w_dIn, ↓w_slcT, ↓w_lrngT, ↓w_lrngF, ↓w_pop0, ↓w_pop1, ↓w_call, ↓w_comp, ↓s_skip, ↓s_seq, ↓s_set, ↓s_unp, ↓s_par, ↓p_nil, ↓p_cons, ↓h_fz, ↓h_fr, ↓h_bw, ↓pe_nil, ↓pe_cons, ↓sl_fz, ↓sl_fr, ↓put0, ↓put1, ↓put2, ↓put3, ↓put4, ↓put5, ↓put6, ↓put7, ↓put8, ↓put9, ↓put10, ↓put11, ↓put12, ↓put13, ↓put14, ↓put15, ↓put16, ↓put17, ↓put18, ↓put19, ↓put20, ↓put21, ↓put22, ↓put23, ↓s_app, ↓s_ext, ↓s_popS, ↓s_sto, ↓s_sto2, ↓s_ifs, ↓s_for, ↓s_whl, ↓s_ret, ↓s_brk, ↓s_nev, ↓r_fz, ↓r_fr, ↓r_bo0, ↓r_bo1, ↓r_bo2, ↓r_bo3, ↓r_bo4, ↓r_bo5, ↓r_bo6, ↓r_bo7, ↓r_bo8, ↓r_bo9, ↓r_bo10, ↓r_bo11, ↓r_bo12, ↓r_bo13, ↓r_bo14, ↓r_bo15, ↓r_bo16, ↓r_bo17, ↓r_bo18, ↓r_bo19, ↓r_bo20, ↓r_bo21, ↓r_bo22, ↓r_bo23, ↓r_bf0, ↓r_bf1, ↓r_bf2, ↓r_bf3, ↓r_bf4, ↓r_bf5, ↓r_bf6, ↓r_bf7, ↓r_bf8, ↓r_bf9, ↓r_bf10, ↓r_bf11, ↓r_bf12, ↓r_bf13, ↓r_bf14, ↓r_bf15, ↓r_bf16, ↓r_bf17, ↓r_bf18, ↓r_bf19, ↓r_bf20, ↓r_bf21, ↓r_bf22, ↓r_bf23, ↓g_fz, ↓g_fr, ↓g_bo0, ↓g_bo1, ↓g_bo2, ↓g_bo3, ↓g_bo4, ↓g_bo5, ↓g_bo6, ↓g_bo7, ↓g_bo8, ↓g_bo9, ↓g_bo10, ↓g_bo11, ↓g_bo12, ↓g_bo13, ↓g_bo14, ↓g_bo15, ↓g_bo16, ↓g_bo17, ↓g_bo18, ↓g_bo19, ↓g_bo20, ↓g_bo21, ↓g_bo22, ↓g_bo23, ↓g_bf0, ↓g_bf1, ↓g_bf2, ↓g_bf3, ↓g_bf4, ↓g_bf5, ↓g_bf6, ↓g_bf7, ↓g_bf8, ↓g_bf9, ↓g_bf10, ↓g_bf11, ↓g_bf12, ↓g_bf13, ↓g_bf14, ↓g_bf15, ↓g_bf16, ↓g_bf17, ↓g_bf18, ↓g_bf19, ↓g_bf20, ↓g_bf21, ↓g_bf22, ↓g_bf23, ↓o_fz, ↓o_fr, ↓o_bo0, ↓o_bo1, ↓o_bo2, ↓o_bo3, ↓o_bo4, ↓o_bo5, ↓o_bo6, ↓o_bo7, ↓o_bo8, ↓o_bo9, ↓o_bo10, ↓o_bo11, ↓o_bo12, ↓o_bo13, ↓o_bo14, ↓o_bo15, ↓o_bo16, ↓o_bo17, ↓o_bo18, ↓o_bo19, ↓o_bo20, ↓o_bo21, ↓o_bo22, ↓o_bo23, ↓o_bf0, ↓o_bf1, ↓o_bf2, ↓o_bf3, ↓o_bf4, ↓o_bf5, ↓o_bf6, ↓o_bf7, ↓o_bf8, ↓o_bf9, ↓o_bf10, ↓o_bf11, ↓o_bf12, ↓o_bf13, ↓o_bf14, ↓o_bf15, ↓o_bf16, ↓o_bf17, ↓o_bf18, ↓o_bf19, ↓o_bf20, ↓o_bf21, ↓o_bf22, ↓o_bf23, ↓st_f0, ↓st_f1, ↓st_f2, ↓st_f3, ↓st_f4, ↓st_f5, ↓st_f6, ↓st_f7, ↓st_f8, ↓st_f9, ↓st_f10, ↓st_f11, ↓st_f12, ↓st_f13, ↓st_f14, ↓st_f15, ↓st_f16, ↓st_f17, ↓st_f18, ↓st_f19, ↓st_f20, ↓st_f21, ↓st_f22, ↓st_f23, ↓st_o0, ↓st_o1, ↓st_o2, ↓st_o3, ↓st_o4, ↓st_o5, ↓st_o6, ↓st_o7, ↓st_o8, ↓st_o9, ↓st_o10, ↓st_o11, ↓st_o12, ↓st_o13, ↓st_o14, ↓st_o15, ↓st_o16, ↓st_o17, ↓st_o18, ↓st_o19, ↓st_o20, ↓st_o21, ↓st_o22, ↓st_o23, ↓sb0, ↓sb1, ↓sb2, ↓sb3, ↓sb4, ↓sb5, ↓sb6, ↓sb7, ↓sb8, ↓sb9, ↓sb10, ↓sb11, ↓sb12, ↓sb13, ↓sb14, ↓sb15, ↓sb16, ↓sb17, ↓sb18, ↓sb19, ↓sb20, ↓sb21, ↓sb22, ↓sb23, ↓bd0, ↓bd1, ↓bd2, ↓bd3, ↓bd4, ↓bd5, ↓bd6, ↓bd7, ↓bd8, ↓bd9, ↓bd10, ↓bd11, ↓bd12, ↓bd13, ↓bd14, ↓bd15, ↓bd16, ↓bd17, ↓bd18, ↓bd19, ↓bd20, ↓bd21, ↓bd22, ↓bd23, ↓bd_cons, ↓bd_nil, ↓bd_t, ↓ow0, ↓ow1, ↓ow2, ↓ow3, ↓ow4, ↓ow5, ↓ow6, ↓ow7, ↓ow8, ↓ow9, ↓ow10, ↓ow11, ↓ow12, ↓ow13, ↓ow14, ↓ow15, ↓ow16, ↓ow17, ↓ow18, ↓ow19, ↓ow20, ↓ow21, ↓ow22, ↓ow23, ↓ap0, ↓ap1, ↓ap2, ↓ap3, ↓ap4, ↓ap5, ↓ap6, ↓ap7, ↓ap8, ↓ap9, ↓ap10, ↓ap11, ↓ap12, ↓ap13, ↓ap14, ↓ap15, ↓ap16, ↓ap17, ↓ap18, ↓ap19, ↓ap20, ↓ap21, ↓ap22, ↓ap23, ↓ex0, ↓ex1, ↓ex2, ↓ex3, ↓ex4, ↓ex5, ↓ex6, ↓ex7, ↓ex8, ↓ex9, ↓ex10, ↓ex11, ↓ex12, ↓ex13, ↓ex14, ↓ex15, ↓ex16, ↓ex17, ↓ex18, ↓ex19, ↓ex20, ↓ex21, ↓ex22, ↓ex23, ↓exT0, ↓exT1, ↓exT2, ↓exT3, ↓exT4, ↓exT5, ↓exT6, ↓exT7, ↓exT8, ↓exT9, ↓exT10, ↓exT11, ↓exT12, ↓exT13, ↓exT14, ↓exT15, ↓exT16, ↓exT17, ↓exT18, ↓exT19, ↓exT20, ↓exT21, ↓exT22, ↓exT23, ↓so0, ↓so1, ↓so2, ↓so3, ↓so4, ↓so5, ↓so6, ↓so7, ↓so8, ↓so9, ↓so10, ↓so11, ↓so12, ↓so13, ↓so14, ↓so15, ↓so16, ↓so17, ↓so18, ↓so19, ↓so20, ↓so21, ↓so22, ↓so23, ↓pp0, ↓pp1, ↓pp2, ↓pp3, ↓pp4, ↓pp5, ↓pp6, ↓pp7, ↓pp8, ↓pp9, ↓pp10, ↓pp11, ↓pp12, ↓pp13, ↓pp14, ↓pp15, ↓pp16, ↓pp17, ↓pp18, ↓pp19, ↓pp20, ↓pp21, ↓pp22, ↓pp23, ↓pq0, ↓pq1, ↓pq2, ↓pq3, ↓pq4, ↓pq5, ↓pq6, ↓pq7, ↓pq8, ↓pq9, ↓pq10, ↓pq11, ↓pq12, ↓pq13, ↓pq14, ↓pq15, ↓pq16, ↓pq17, ↓pq18, ↓pq19, ↓pq20, ↓pq21, ↓pq22, ↓pq23, ↓ps0, ↓ps1, ↓ps2, ↓ps3, ↓ps4, ↓ps5, ↓ps6, ↓ps7, ↓ps8, ↓ps9, ↓ps10, ↓ps11, ↓ps12, ↓ps13, ↓ps14, ↓ps15, ↓ps16, ↓ps17, ↓ps18, ↓ps19, ↓ps20, ↓ps21, ↓ps22, ↓ps23, ↓sr0, ↓sr1, ↓sr2, ↓sr3, ↓sr4, ↓sr5, ↓sr6, ↓sr7, ↓sr8, ↓sr9, ↓sr10, ↓sr11, ↓sr12, ↓sr13, ↓sr14, ↓sr15, ↓sr16, ↓sr17, ↓sr18, ↓sr19, ↓sr20, ↓sr21, ↓sr22, ↓sr23, ↓sr_no, ↓rt_f, ↓rt_t, ↓t_b, ↓b_addI, ↓b_subI, ↓b_mulI, ↓b_fdivI, ↓b_modI, ↓b_addL, ↓b_addT, ↓b_addS, ↓b_mulL, ↓b_mulT, ↓c_eqI, ↓c_neI, ↓c_ltI, ↓c_leI, ↓c_gtI, ↓c_geI, ↓c_eqS, ↓c_neS, ↓c_eq, ↓c_ne, ↓u_lenl, ↓u_lent, ↓u_tupLl, ↓u_tupTt, ↓u_lstQl, ↓u_lstQt, ↓u_intIi, ↓u_intBb, ↓u_absi, ↓u_repr, ↓u_isT, ↓u_isI, ↓u_isB, ↓u_isS, ↓u_all, ↓u_sum, ↓u_maxL, ↓u_minL, ↓u_sumT, ↓u_maxT, ↓u_minT, ↓u_sortDl, ↓u_sortDt, ↓u_max2, ↓u_min2, ↓u_gcd, ↓ix_l, ↓ix_t, ↓id_l0, ↓id_l1, ↓id_l2, ↓id_l3, ↓id_l4, ↓id_l5, ↓id_l6, ↓id_l7, ↓id_l8, ↓id_l9, ↓id_l10, ↓id_l11, ↓id_l12, ↓id_l13, ↓id_l14, ↓id_l15, ↓id_l16, ↓id_l17, ↓id_l18, ↓id_l19, ↓id_l20, ↓id_l21, ↓id_l22, ↓id_l23, ↓id_m0, ↓id_m1, ↓id_m2, ↓id_m3, ↓id_m4, ↓id_m5, ↓id_m6, ↓id_m7, ↓id_m8, ↓id_m9, ↓id_m10, ↓id_m11, ↓id_m12, ↓id_m13, ↓id_m14, ↓id_m15, ↓id_m16, ↓id_m17, ↓id_m18, ↓id_m19, ↓id_m20, ↓id_m21, ↓id_m22, ↓id_m23, ↓id_f, ↓id_r, ↓id_t, ↓idd0, ↓idd1, ↓idd2, ↓idd3, ↓idd4, ↓idd5, ↓idd6, ↓idd7, ↓idd8, ↓idd9, ↓idd10, ↓idd11, ↓idd12, ↓idd13, ↓idd14, ↓idd15, ↓idd16, ↓idd17, ↓idd18, ↓idd19, ↓idd20, ↓idd21, ↓idd22, ↓idd23, ↓idd_f, ↓idd_r, ↓dg, ↓dgd, ↓di, ↓pk, ↓i_l, ↓i_t, ↓sc_l, ↓sc_t, ↓pt_t, ↓pt_f, ↓it_l, ↓it_t, ↓ro1, ↓ro2, ↓ro3, ↓k_lst, ↓k_tup, ↓k_r1, ↓k_r2, ↓k_zl, ↓k_zt, ↓k_el, ↓k_et, ↓ex_fzT, ↓ex_fzI, ↓ex_fzB, ↓ex_T, ↓ex_L, ↓ex_some, ↓reduceIte, List.length_cons, List.length_nil, Nat.reduceAdd, Nat.reduceSub, true_and, and_true, List.nil_append, List.cons_append, decide_eq_true_eq, Bool.false_eq_true, List.append_nil, Bool.not_true, Bool.not_false, Bool.not_eq_true', decide_eq_false_iff_not]))
section
theorem low0 (n : Nat) : Low (callN tbF (n + 1)) i_lowest := fun a b k h1 h2 h3 => low_run h1 h2 h3
theorem isfr1 (n : Nat) : IsFr (callN tbF (n + 1)) i_is_fraction := fun q k h => isfr_run h
theorem sum2 (n : Nat) : FSum (callN tbF (n + 2)) i_fraction_sum := fun x y k h1 h2 h3 => sum_run (low0 n) h1 h2 h3
theorem tim3 (n : Nat) : FTimes (callN tbF (n + 2)) i_fraction_times := fun x y k h1 h2 h3 => times_run (low0 n) h1 h2 h3
theorem isfrt4 (n : Nat) : IsFrT (callN tbF (n + 2)) i_is_fraction_tuple := fun m f k h => isfrt_run (isfr1 n) h
theorem isw5 (n : Nat) : IsWts (callN tbF (n + 3)) i_is_weights := fun m L W k h1 h2 h3 h4 => iswts_run (isfrt4 n) h1 h2 h3 h4
theorem lvl6 (n : Nat) : IsLvl (callN tbF (n + 1)) i_is_level_way := fun d k h1 h2 => lvl_run h1 h2
theorem nxt7 (n : Nat) : Next (callN tbF (n + 3)) i_next_way_numbers := fun m L W X k h1 h2 h3 h4 => next_run (sum2 n) (tim3 n) h1 h2 h3 h4
theorem wnm8 (n : Nat) : WayNums (callN tbF (n + 4)) i_way_numbers := fun m L W t k h1 h2 h3 h4 h5 => waynums_run (nxt7 n) h1 h2 h3 h4 h5
theorem lin8 (n : Nat) : Line0 (callN tbF (n + 4)) i_way_numbers := fun m L W k h1 h2 h3 => wnm8 n m L W 0 k h1 h2 (by omega) (fun u hu => absurd hu (Nat.not_lt_zero u)) h3
theorem row9 (n : Nat) : RowW (callN tbF (n + 5)) i_row_of_weights := fun m L W k h1 h2 h3 h4 => rowW_run (lin8 n) (nxt7 (n + 1)) h1 h2 h3 h4
theorem lev10 (n : Nat) : LevC (callN tbF (n + 1)) i_level_choices := fun s h k h1 h2 => lev_run h1 h2
theorem dwn11 (n : Nat) : DwnC (callN tbF (n + 1)) i_down_choices := fun s h k h1 h2 => dwn_run h1 h2
theorem chs12 (n : Nat) : ChsC (callN tbF (n + 2)) i_step_choices := fun s h l k h1 h2 h3 => chs_run (lev10 n) (dwn11 n) h1 h2 h3
theorem tld13 (n : Nat) : IsTold (callN tbF (n + 3)) i_is_told_way := fun s d k h1 h2 => tld_run (chs12 n) (lvl6 (n + 1)) h1 h2
theorem tws14 (n : Nat) : ToldW (callN tbF (n + 3)) i_told_ways := fun s m k h1 h2 => told_run (chs12 n) h1 h2
theorem sow15 (n : Nat) : SortW (callN tbF (n + 2)) i_sort_weights := fun s m k h1 h2 h3 => sortw_run (lev10 n) (dwn11 n) h1 h2 h3
theorem cnt16 (n : Nat) : TldCnt (callN tbF (n + 5)) i_told_way_count := fun s t m k h1 h2 h3 h4 => tldcnt_run (wnm8 n) (sow15 (n + 2)) h1 h2 h3 h4
theorem pick17 (n : Nat) : PickF (callN tbF (n + 1)) i__law_pick := fun m k h1 h2 h3 => ⟨m, rfl, ⟨h1, h2⟩, h3⟩
theorem of18 (n : Nat) : LOf (callN tbF (n + 2)) i__law_of := fun xs k h1 h2 h3 => of_run (pick17 n) h1 h2 h3
theorem lint19 (n : Nat) : LIsInt (callN tbF (n + 1)) i__law_is_int := fun d k h => lint_run h
theorem lch20 (n : Nat) : LchC (callN tbF (n + 1)) i__law_choices := fun s h l k h1 h2 h3 => lch_run h1 h2 h3
theorem lways21 (n : Nat) : LWaysL (callN tbF (n + 1)) i__law_ways := fun s m k h1 h2 => lways_run h1 h2
theorem ltw22 (n : Nat) : LToldW (callN tbF (n + 2)) i__law_told_ways := fun s m k h1 h2 => ltold_run (lways21 n) (lch20 n) h1 h2
theorem ltl23 (n : Nat) : IsTold (callN tbF (n + 2)) i__law_is_told := fun s d k h1 h2 => ltld_run (lch20 n) (lint19 n) h1 h2
theorem num24 (n : Nat) : LNums (callN tbF (n + 1)) i__law_numbers := fun m l w t k h1 h2 h3 h4 h5 => lnums_run h1 h2 h3 h4 h5
theorem bent25 (n : Nat) : ∀ a, a ≤ 50 → LBentA (callN tbF (n + 3 + a)) i__law_bent a
  | 0, ha => fun M b v odd k h1 h2 h3 h4 h5 => bent_run (pick17 (n + 1)) (of18 n) (lint19 (n + 1)) (fun c hc => by omega) h1 h2 ha h3 h4 h5
  | a + 1, ha => fun M b v odd k h1 h2 h3 h4 h5 => bent_run (F := callN tbF (n + 3 + a)) (by have := pick17 (n + 2 + a); rwa [show n + 2 + a + 1 = n + 3 + a by omega] at this) (by have := of18 (n + 1 + a); rwa [show n + 1 + a + 2 = n + 3 + a by omega] at this) (by have := lint19 (n + 2 + a); rwa [show n + 2 + a + 1 = n + 3 + a by omega] at this) (fun c hc => by
      obtain rfl : c = a := by omega
      exact bent25 n c (by omega)) h1 h2 ha h3 h4 h5
theorem fsR : Fs57 (callN tbF 9) := ⟨lev10 8, dwn11 8, isw5 6, wnm8 5, row9 4, tld13 6, tws14 6, sow15 7, cnt16 4, pick17 8, of18 7, lch20 8, ltw22 7, ltl23 7, num24 8, bent25 4 2 (by omega)⟩
theorem dataR : wS (callN tbF 9) b_law (lawEnv n_law.length) lawEn := law57 fsR
end
end Ev
open PySem PySem.W PySem.Calls PyProof.Rows
theorem PySem.Challenge.cw_momentpaths_k57_whole_told_ways_of_sorts_holds : PySem.Challenge.rw_momentpaths_k57_whole_told_ways_of_sorts.Holds := by
  w_on; o_law
  refine HandSHeadRun.head_imp (r := OpenLaw.row PySem.Challenge.rw_momentpaths_k57_whole_told_ways_of_sorts) (q := (view (OpenLaw.row PySem.Challenge.rw_momentpaths_k57_whole_told_ways_of_sorts).prog [0, 32])) (H := Ev.hkR) (ob := Ev.obR) (M := 40000) (loose := Ev.looseR) (d := HandSHeadRun.topDef (OpenLaw.row PySem.Challenge.rw_momentpaths_k57_whole_told_ways_of_sorts).prog 32) (kwd := []) Ev.obR_eq
    Ev.runR (by kernel_rfl) (by kernel_rfl) (by kernel_rfl) (by rfl) (by first | assumption | decide +kernel) (by decide +kernel) ⟨rfl, rfl, rfl, rfl, rfl, by decide +kernel⟩ ?hw ?hc
  case hw => w_witness2
  case hc =>
    refine Ev.walkG (l := PySem.Challenge.rw_momentpaths_k57_whole_told_ways_of_sorts) (k := 42) rfl (by kernel_rfl) ⟨rfl, by decide, by decide⟩ rfl (by decide +kernel) ?F
    intro w mg fa h Y XP G hmg0
    obtain ⟨K, KX, c⟩ := Y
    have hmg : mg ("law" : PySem.Str) = some (.ref fa) := by
      have e : (HandSHeadRun.topDef (OpenLaw.row PySem.Challenge.rw_momentpaths_k57_whole_told_ways_of_sorts).prog 32).name = ("law" : PySem.Str) := by kernel_rfl
      rw [← e]
      exact hmg0
    have hg : Ev.tn.gcd = true → mg ("gcd" : PySem.Str) = some (.builtin "math.gcd") := fun _ => XP.1.drawn (("gcd" : PySem.Str), .fn "math.gcd") (PySem.Flt.mem_of_lookup (by kernel_rfl))
    obtain ⟨fd, hb, hF⟩ := Ev.factsR (P := (PySem.Challenge.rw_momentpaths_k57_whole_told_ways_of_sorts).prog) (w := w) KX G hmg c hg rfl Ev.dataR
    exact ⟨K, fd, KX, hb, hF⟩
