import PyProof.Rows.All
import KE.SortData
import HandS.Comp
import HandS.Lambda
import HandS.ForMost
import HandS.Deep
import HandS.Exc
import HandS.ExcOwn
import HandS.WordsExc
import HandS.TupAny
import HandS.TupMul
import HandS.TupLe
import HandS.IsInst
import HandS.Conv
import KE.LtData
import HandS.TupSets
import HandS.More
import HandS.SetFor
import HandS.Strs
import HandS.WordsDict
import HandS.Style
import HandS.Zip
import KE.GoesMore
import HandS.TryMany
import HandS.HeadHook2
import HandS.HeadEnd
import HandS.EndOwn
import PyProof.ExcBaseAll.ValueError
import HandS.HeadWalk
import HandS.Head2
import Wide.Fin
import Wide.All
import OpenK.AllK
import Wide.FinOn
import KE.KStateDown
import HandS.Ends
import HandS.Head0
import HandS.Head1
import PySem.Challenge.RW_routeproof_k65_whole_traps
section
set_option linter.all false
/-! A small core language over PyData, and its evaluator. -/
namespace Core
open PySem PySem.W

abbrev D := PyData
instance : Inhabited PyData := ⟨.none⟩

/-! ### data -/
mutual
/-- how deep a datum is; a dict counts as too deep -/
def dep : D → Nat
  | .none | .bool _ | .int _ | .str _ => 0
  | .list xs => depAll xs + 1
  | .tuple xs => depAll xs + 1
  | .dict _ => 1000
def depAll : List D → Nat
  | [] => 0
  | x :: xs => max (dep x) (depAll xs)
end
def okD (d : D) : Bool := decide (dep d ≤ 64)

def pyEq (a b : D) : Option Bool := if okD a && okD b then some (PyData.eqv a b) else none
def pyLt (a b : D) : Option Bool := match a, b with
  | .int i, .int j => some (decide (i < j))
  | .str x, .str y => some (decide (x.cps.toList < y.cps.toList))
  | .tuple xs, .tuple ys => if alikeAll xs ys && okD (.tuple xs) && okD (.tuple ys) then some (rowLt xs ys) else none
  | _, _ => none

/-- the place of an index -/
def ixN (n : Nat) (i : Int) : Option Nat := if 0 ≤ i then (if i < n then some i.toNat else none) else if -(n : Int) ≤ i then some (i + n).toNat else none
def atI {α : Type} (xs : List α) (i : Int) : Option α := (ixN xs.length i).bind fun j => xs[j]?
def sIx (n d : Nat) : Option Int → Nat
  | none => d
  | some v => if v < 0 then (v + (n : Int)).toNat else min v.toNat n
def cut {α : Type} (xs : List α) (lo hi : Option Int) : List α := (xs.drop (sIx xs.length 0 lo)).take (sIx xs.length xs.length hi - sIx xs.length 0 lo)

def lookD (k : D) : List (D × D) → Option D
  | [] => none
  | (k', v) :: r => if PyData.eqv k' k then some v else lookD k r
def putD (k v : D) (kvs : List (D × D)) : List (D × D) :=
  if (kvs.any fun p => PyData.eqv p.1 k) = true then kvs.map (fun p => if PyData.eqv p.1 k then (p.1, v) else p) else kvs ++ [(k, v)]
def pairsOf : List D → Option (List (D × D))
  | [] => some []
  | k :: v :: r => (pairsOf r).map ((k, v) :: ·)
  | _ => none
/-- what may be a key -/
def keyOk : D → Bool
  | .int _ => true
  | .str _ => true
  | _ => false

def inL (d : D) (ds : List D) : Bool := ds.any fun z => PyData.eqv z d
/-- a sorted list, each once -/
def insS {α : Type} (lt : α → α → Bool) (x : α) : List α → List α
  | [] => [x]
  | y :: ys => if lt x y then x :: y :: ys else if lt y x then y :: insS lt x ys else y :: ys
def ssetL {α : Type} (lt : α → α → Bool) (xs : List α) : List α := xs.foldr (insS lt) []
def intsOf : List D → Option (List Int)
  | [] => some []
  | .int i :: r => (intsOf r).map (i :: ·)
  | _ :: _ => none
def tupsOf : List D → Option (List (List Int))
  | [] => some []
  | .tuple xs :: r => match intsOf xs, tupsOf r with
    | some ns, some nss => some (ns :: nss)
    | _, _ => none
  | _ :: _ => none
def encT (ns : List Int) : D := .tuple (ns.map .int)
def sset (xs : List D) : Option D := match intsOf xs with
  | some ns => if ns.length < 64 then some (.list ((ssetL (fun a b => decide (a < b)) ns).map .int)) else none
  | none => match tupsOf xs with
    | some nss => if nss.length < 64 && nss.all (fun ns => !ns.isEmpty) then some (.list ((ssetL (fun a b => decide (a < b)) nss).map encT)) else none
    | none => none
def allAlike (xs : List D) : Bool := xs.all fun x => xs.all fun y => alike x y
def isTupC : D → Bool
  | .tuple (_ :: _) => true
  | _ => false
def isAtom : D → Bool
  | .none => false
  | .tuple _ => false
  | _ => true
def sortable (xs : List D) : Bool := allAlike xs && (xs.all isTupC || xs.all isAtom) && xs.all okD
def sortD (xs : List D) : List D := xs.mergeSort (dataLe false id)
def allI : List D → Bool := fun xs => xs.all fun | .int _ => true | _ => false
def leastD : D → List D → D
  | m, [] => m
  | m, x :: xs => leastD (if dataLt x m then x else m) xs
def greatestD : D → List D → D
  | m, [] => m
  | m, x :: xs => greatestD (if dataLt m x then x else m) xs
def itemsOf : D → Option (List D)
  | .list xs => some xs
  | .tuple xs => some xs
  | _ => none
def boolsOf : List D → Option (List Bool)
  | [] => some []
  | .bool b :: r => (boolsOf r).map (b :: ·)
  | _ :: _ => none

/-! ### operations -/
inductive O1 where
  | neg | len | abs | int_ | tuple_ | list_ | lrng | sorted_ | sset | lset | all_ | any_ | max_ | min_
  | isI | isB | isT | isS
  | isC (c : Const) | notC (c : Const)
  deriving DecidableEq, Inhabited
inductive O2 where
  | add | sub | mul | fdiv | mod | pow | eq | ne | lt | le | gt | ge | isin | notin | idx | max2 | min2 | index
  deriving DecidableEq, Inhabited
inductive O3 where
  | get
  deriving DecidableEq, Inhabited

def rngD (lo : Int) (n : Nat) : List D := (List.range n).map fun (i : Nat) => .int (lo + i)
def isConst (c : Const) (d : D) : Option Bool := match c with
  | .none => some (match d with | .none => true | _ => false)
  | .bool b => match d with
    | .bool b' => some (decide (b' = b))
    | _ => none
  | _ => none
def lineMax : Nat := 16777216
def do1 (o : O1) (a : D) : Option D := match o, a with
  | .neg, .int i => some (.int (-i))
  | .len, .list xs => some (.int xs.length)
  | .len, .tuple xs => some (.int xs.length)
  | .len, .dict kvs => some (.int kvs.length)
  | .abs, .int i => some (.int (if i < 0 then -i else i))
  | .int_, .int i => some (.int i)
  | .int_, .bool b => some (.int (if b then 1 else 0))
  | .tuple_, .list xs => some (.tuple xs)
  | .tuple_, .tuple xs => some (.tuple xs)
  | .list_, .list xs => some (.list xs)
  | .list_, .tuple xs => some (.list xs)
  | .lrng, .int n => if -16000000 ≤ n && n ≤ 16000000 then some (.list (rngD 0 n.toNat)) else none
  | .sorted_, .list xs => if sortable xs then some (.list (sortD xs)) else none
  | .sorted_, .dict kvs => if sortable (kvs.map (·.1)) && decide (kvs.length ≤ lineMax) then some (.list (sortD (kvs.map (·.1)))) else none
  | .sset, .list xs => sset xs
  | .all_, .list xs => (boolsOf xs).map fun bs => .bool (bs.all id)
  | .any_, .list xs => (boolsOf xs).map fun bs => .bool (bs.any id)
  | .max_, .list (x :: xs) => if sortable (x :: xs) then some (greatestD x xs) else none
  | .min_, .list (x :: xs) => if sortable (x :: xs) then some (leastD x xs) else none
  | .max_, .tuple (x :: xs) => if sortable (x :: xs) then some (greatestD x xs) else none
  | .min_, .tuple (x :: xs) => if sortable (x :: xs) then some (leastD x xs) else none
  | .isI, d => some (.bool (match d with | .int _ => true | .bool _ => true | _ => false))
  | .isB, d => some (.bool (match d with | .bool _ => true | _ => false))
  | .isT, d => some (.bool (match d with | .tuple _ => true | _ => false))
  | .isS, d => some (.bool (match d with | .str _ => true | _ => false))
  | .isC c, d => (isConst c d).map .bool
  | .notC c, d => (isConst c d).map fun b => .bool (!b)
  | _, _ => none
def small64 (i : Int) : Bool := decide (-(2 ^ 64) < i) && decide (i < 2 ^ 64)
def do2 (o : O2) (a b : D) : Option D := match o with
  | .add => match a, b with
    | .int i, .int j => some (.int (i + j))
    | .list xs, .list ys => if xs.length + ys.length ≤ lineMax then some (.list (xs ++ ys)) else none
    | .tuple xs, .tuple ys => if xs.length + ys.length ≤ lineMax then some (.tuple (xs ++ ys)) else none
    | _, _ => none
  | .sub => match a, b with
    | .int i, .int j => some (.int (i - j))
    | _, _ => none
  | .mul => match a, b with
    | .int i, .int j => if small64 i || small64 j then some (.int (i * j)) else none
    | .list xs, .int k => if 0 ≤ k && k ≤ 1000 && xs.length * k.toNat ≤ lineMax then some (.list (List.replicate k.toNat xs).flatten) else none
    | .tuple xs, .int k => if !xs.isEmpty && 2 ≤ k && k ≤ 1000 && xs.length ≤ 1000 then some (.tuple (List.replicate k.toNat xs).flatten) else none
    | _, _ => none
  | .fdiv => match a, b with
    | .int i, .int j => if 0 < j && j < 1073741824 then some (.int (i / j)) else none
    | _, _ => none
  | .mod => match a, b with
    | .int i, .int j => if 0 < j then some (.int (i % j)) else none
    | _, _ => none
  | .pow => match a, b with
    | .int i, .int j => if 0 ≤ j && j ≤ 1000 && small64 i then some (.int (i ^ j.toNat)) else none
    | _, _ => none
  | .eq => (pyEq a b).map .bool
  | .ne => (pyEq a b).map fun x => .bool (!x)
  | .lt => (pyLt a b).map .bool
  | .gt => match a, b with
    | .int i, .int j => some (.bool (decide (j < i)))
    | _, _ => none
  | .le => match a, b with
    | .int i, .int j => some (.bool (decide (i ≤ j)))
    | _, _ => none
  | .ge => match a, b with
    | .int i, .int j => some (.bool (decide (j ≤ i)))
    | _, _ => none
  | .isin => match b with
    | .list ys => if okD a && okD (.list ys) then some (.bool (inL a ys)) else none
    | .tuple ys => if okD a && okD (.tuple ys) then some (.bool (inL a ys)) else none
    | .dict kvs => if keyOk a then some (.bool (lookD a kvs).isSome) else none
    | _ => none
  | .notin => match b with
    | .list ys => if okD a && okD (.list ys) then some (.bool (!inL a ys)) else none
    | .tuple ys => if okD a && okD (.tuple ys) then some (.bool (!inL a ys)) else none
    | .dict kvs => if keyOk a then some (.bool (!(lookD a kvs).isSome)) else none
    | _ => none
  | .idx => match a, b with
    | .list xs, .int i => atI xs i
    | .tuple xs, .int i => atI xs i
    | .dict kvs, k => if keyOk k then lookD k kvs else none
    | _, _ => none
  | .max2 => match a, b with
    | .int i, .int j => some (.int (if j > i then j else i))
    | _, _ => none
  | .min2 => match a, b with
    | .int i, .int j => some (.int (if j < i then j else i))
    | _, _ => none
  | .index => match a with
    | .list xs => if okD (.list xs) && okD b then (xs.findIdx? fun z => PyData.eqv z b).map fun (n : Nat) => .int n else none
    | _ => none
def do3 (o : O3) (a b c : D) : Option D := match o with
  | .get => match a with
    | .dict kvs => if keyOk b then some ((lookD b kvs).getD c) else none
    | _ => none
/-- a slice's part: left out, or an int -/
def partD : List D → Option (Option Int)
  | [] => some none
  | [.int i] => some (some i)
  | _ => none
def doSl (a : D) (lo hi : Option Int) : Option D := match a with
  | .list xs => some (.list (cut xs lo hi))
  | .tuple xs => some (.tuple (cut xs lo hi))
  | _ => none

/-! ### slots, values, outcomes -/
inductive Sl where
  | no | v (d : D) | o (xs : List D) | q (kvs : List (D × D))
  deriving Inhabited
abbrev Env := List Sl
inductive RV where
  | f (d : D) | n (d : D) | b (i : Nat)
  deriving Inhabited
/-- an exception: its class (by number), and the limit that it keeps -/
structure Exc where
  cls : Nat
  lim : Option D
  deriving Inhabited
inductive Out (α : Type) where
  | ok (a : α) (env : Env) | ex (x : Exc) (env : Env) | bad
  deriving Inhabited
namespace Out
@[inline] def bind {α β : Type} : Out α → (α → Env → Out β) → Out β
  | .ok a env, f => f a env
  | .ex x env, _ => .ex x env
  | .bad, _ => .bad
def ofO {α : Type} (o : Option α) (env : Env) : Out α := match o with
  | some a => .ok a env
  | none => .bad
end Out
def peek (r : RV) (env : Env) : Option D := match r with
  | .f d => some d
  | .n d => some d
  | .b i => match env[i]? with
    | some (.v d) => some d
    | some (.o xs) => some (.list xs)
    | some (.q kvs) => some (.dict kvs)
    | _ => none
def frz (r : RV) (env : Env) : Out D := match r with
  | .f d => .ok d env
  | .n d => .ok d env
  | .b i => match env[i]? with
    | some (.v d) => .ok d env
    | some (.o xs) => .ok (.list xs) (env.set i (.v (.list xs)))
    | some (.q kvs) => .ok (.dict kvs) (env.set i (.v (.dict kvs)))
    | _ => .bad
def isLst : D → Bool
  | .list _ => true
  | .dict _ => true
  | _ => false
/-- the result of an operation that makes new lists -/
def mk (d : D) : RV := if isLst d then .n d else .f d

/-! ### the language -/
inductive TG where
  | nm (i : Nat) | tp (ts : List TG)
  deriving Inhabited
mutual
inductive CE where
  | var (i : Nat) | cst (d : D)
  | tup (es : List CE) | lst (es : List CE) | dct (es : List CE)
  | o1 (o : O1) (a : CE) | o2 (o : O2) (a b : CE) | o3 (o : O3) (a b c : CE)
  | slc (a : CE) (lo hi : List CE) | ixo (a b : CE)
  | and_ (a b : CE) | or_ (a b : CE) | not_ (a : CE) | ite (c a b : CE) | chn (o p : O2) (a b c : CE)
  | call (f : Nat) (args : List CE)
  | lc (elt : CE) (tg : TG) (it : IT) (ifs : List CE) (own : List Nat)
  | lc2 (elt : CE) (tg : TG) (it : IT) (ifs : List CE) (tg1 : TG) (it1 : IT) (ifs1 : List CE) (own own1 : List Nat)
  | grd (f : Nat) (body : CE)
inductive IT where
  | seq (e : CE) | rng (e : CE) | rng2 (a b : CE) | enu (e : CE) | zip (a b : CE)
end
instance : Inhabited CE := ⟨.cst .none⟩
instance : Inhabited IT := ⟨.seq default⟩
inductive CS where
  | asg (i : Nat) (e : CE) | unp (tg : TG) (e : CE) | par (is : List Nat) (es : List CE)
  | sto (i : Nat) (ix e : CE) | apd (i : Nat) (e : CE) | exp (e : CE)
  | ite (c : CE) (a b : List CS) | whl (c : CE) (b : List CS) | for_ (tg : TG) (it : IT) (b : List CS)
  | brk | cnt | pas | ret (e : CE) | retN | rai (cls : Nat)
  deriving Inhabited
inductive Fl where
  | next | brk | cnt | ret (r : RV)
  deriving Inhabited
/-- a def's outcome: its value (is it a new list?), and its parameters' slots -/
inductive FO where
  | ok (d : D) (new : Bool) (ps : List Sl) | ex (x : Exc) (ps : List Sl) | bad
  deriving Inhabited
/-- what a guard does: which class of an exception gives what, or -1: the text "many " and the limit -/
structure Guard where
  hds : List (Nat × D)
  els : D
  deriving Inhabited
/-- what the language asks of around: the defs, which parameters of them are never stored, which class is below which, the guards, how often a while may turn -/
structure Ctx where
  callf : Nat → List Sl → FO
  io : Nat → Nat → Bool
  sub : Nat → Nat → Bool
  guard : Nat → Guard
  turns : Nat

/-! ### targets -/
mutual
def bindT : TG → D → Env → Option Env
  | .nm i, d, env => some (env.set i (.v d))
  | .tp ts, .tuple ds, env => bindTs ts ds env
  | .tp _, _, _ => none
def bindTs : List TG → List D → Env → Option Env
  | [], [], env => some env
  | t :: ts, d :: ds, env => match bindT t d env with
    | some env' => bindTs ts ds env'
    | none => none
  | _, _, _ => none
end
def wipe (own : List Nat) (env : Env) : Env := own.foldl (fun e i => e.set i .no) env
/-- behind a comprehension: its own names are what they were -/
def back (own : List Nat) (env0 env : Env) : Env := own.foldl (fun e i => e.set i (env0.getD i .no)) env
def isOwn : Sl → Bool
  | .o _ => true
  | .q _ => true
  | _ => false

def bound (env : Env) (i : Nat) : Bool := match env[i]? with
  | some (.v _) => true
  | some (.o _) => true
  | some (.q _) => true
  | _ => false
/-! ### loops over items -/
def lcGo (tg : TG) (cond : Env → Out Bool) (elt : Env → Out D) (own : List Nat) : List D → Env → Out (List D)
  | [], env => .ok [] env
  | x :: xs, env => match bindT tg x env with
    | none => .bad
    | some env1 => match cond env1 with
      | .ok true env2 => match elt env2 with
        | .ok d env3 => match lcGo tg cond elt own xs (wipe own env3) with
          | .ok ds env4 => .ok (d :: ds) env4
          | _ => .bad
        | _ => .bad
      | .ok false env2 => lcGo tg cond elt own xs (wipe own env2)
      | _ => .bad
/-- two clauses: inner gives the list of one turn -/
def lcGo2 (tg : TG) (cond : Env → Out Bool) (inner : Env → Out (List D)) (own : List Nat) : List D → Env → Out (List D)
  | [], env => .ok [] env
  | x :: xs, env => match bindT tg x env with
    | none => .bad
    | some env1 => match cond env1 with
      | .ok true env2 => match inner env2 with
        | .ok d env3 => match lcGo2 tg cond inner own xs (wipe own env3) with
          | .ok ds env4 => .ok (d ++ ds) env4
          | _ => .bad
        | _ => .bad
      | .ok false env2 => lcGo2 tg cond inner own xs (wipe own env2)
      | _ => .bad
def isB : RV → Bool
  | .b _ => true
  | _ => false
/-- a text as a value -/
def strR (d : D) (env : Env) : Out RV := match d with
  | .str s => if PyData.strOk s then .ok (.f (.str s)) env else .bad
  | _ => .bad
def zipD : List D → List D → List D
  | x :: xs, y :: ys => .tuple [x, y] :: zipD xs ys
  | _, _ => []
def enuD : Nat → List D → List D
  | _, [] => []
  | n, x :: xs => .tuple [.int n, x] :: enuD (n + 1) xs
def walkItems : D → Option (List D)
  | .list xs => some xs
  | .tuple xs => some xs
  | _ => none
/-- the arguments as the callee gets them -/
def passArgs (env : Env) : List RV → Option (List Sl)
  | [] => some []
  | .b i :: r => match env[i]?, passArgs env r with
    | some (.no), _ => none
    | some s, some ss => some (s :: ss)
    | _, _ => none
  | .f d :: r => (passArgs env r).map (.v d :: ·)
  | .n d :: r => (passArgs env r).map (.v d :: ·)
def bors (env : Env) : List RV → List Nat
  | [] => []
  | .b i :: r => if isOwn (env.getD i .no) then i :: bors env r else bors env r
  | _ :: r => bors env r
def backArgs : List RV → List Sl → Env → Env
  | .b i :: r, s :: ss, env => backArgs r ss (env.set i s)
  | _ :: r, _ :: ss, env => backArgs r ss env
  | _, _, env => env
def dupFree : List Nat → Bool
  | [] => true
  | x :: xs => !xs.contains x && dupFree xs

/-! ### the evaluator -/
section
variable (C : Ctx)
mutual
def evE : CE → Env → Out RV
  | .var i, env => match env[i]? with
    | some (.v d) => .ok (.f d) env
    | some (.o _) => .ok (.b i) env
    | some (.q _) => .ok (.b i) env
    | _ => .bad
  | .cst d, env => .ok (.f d) env
  | .tup es, env => (evEs es env).bind fun ds env => .ok (.f (.tuple ds)) env
  | .lst es, env => (evEs es env).bind fun ds env => .ok (.n (.list ds)) env
  | .dct es, env => (evEs es env).bind fun ds env => match pairsOf ds with
    | some ps => if ps.all (fun p => keyOk p.1) then .ok (.n (.dict (ps.foldl (fun m p => putD p.1 p.2 m) []))) env else .bad
    | none => .bad
  | .o1 o a, env => (evE a env).bind fun r env => match (peek r env).bind (do1 o) with
    | some d => .ok (mk d) env
    | none => .bad
  | .o2 o a b, env => (evE a env).bind fun r env => (evE b env).bind fun s env => match peek r env, peek s env with
    | some x, some y => match do2 o x y with
      | some d => .ok (if o = .idx then .f d else mk d) env
      | none => .bad
    | _, _ => .bad
  | .o3 o a b c, env => (evE a env).bind fun r env => (evE b env).bind fun s env => ((evE c env).bind frz).bind fun z env => match peek r env, peek s env with
    | some x, some y => match do3 o x y z with
      | some d => .ok (.f d) env
      | none => .bad
    | _, _ => .bad
  | .slc a lo hi, env => (evE a env).bind fun r env => ((evEs lo env).bind fun l env => Out.ofO (partD l) env).bind fun l env => ((evEs hi env).bind fun h env => Out.ofO (partD h) env).bind fun h env => match (peek r env).bind (doSl · l h) with
    | some d => .ok (mk d) env
    | none => .bad
  | .ixo a b, env => (evE a env).bind fun r env => match peek r env with
    | some (.list _) => (evE b env).bind fun s env => match peek r env, peek s env with
      | some x, some y => match do2 .index x y with
        | some d => .ok (.f d) env
        | none => .bad
      | _, _ => .bad
    | _ => .bad
  | .and_ a b, env => (evE a env).bind fun r env => match peek r env with
    | some (.bool true) => evE b env
    | some (.bool false) => .ok (.f (.bool false)) env
    | _ => .bad
  | .or_ a b, env => (evE a env).bind fun r env => match peek r env with
    | some (.bool true) => .ok (.f (.bool true)) env
    | some (.bool false) => evE b env
    | _ => .bad
  | .not_ a, env => (evE a env).bind fun r env => match peek r env with
    | some (.bool x) => .ok (.f (.bool (!x))) env
    | _ => .bad
  | .ite c a b, env => (evE c env).bind fun r env => match peek r env with
    | some (.bool true) => evE a env
    | some (.bool false) => evE b env
    | _ => .bad
  | .chn o p a b c, env => (evE a env).bind fun r env => (evE b env).bind fun s env => match peek r env, peek s env with
    | some x, some y => match do2 o x y with
      | some (.bool true) => (evE c env).bind fun t env => match peek s env, peek t env with
        | some y, some z => match do2 p y z with
          | some d => .ok (.f d) env
          | none => .bad
        | _, _ => .bad
      | some (.bool false) => .ok (.f (.bool false)) env
      | _ => .bad
    | _, _ => .bad
  | .call f args, env => (evRs (C.io f) 0 args env).bind fun rs env =>
      if dupFree (bors env rs) then match passArgs env rs with
        | some ss => match C.callf f ss with
          | .ok d new ps => .ok (if new then .n d else .f d) (backArgs rs ps env)
          | .ex x ps => .ex x (backArgs rs ps env)
          | .bad => .bad
        | none => .bad
      else .bad
  | .lc elt tg it ifs own, env => (evI it env).bind fun xs env1 =>
      match lcGo tg (evC ifs) (fun e => (evE elt e).bind frz) own xs (wipe own env1) with
      | .ok ds env2 => .ok (.n (.list ds)) (back own env1 env2)
      | _ => .bad
  | .lc2 elt tg it ifs tg1 it1 ifs1 own own1, env => (evI it env).bind fun xs env1 =>
      match lcGo2 tg (evC ifs) (fun e => (evI it1 e).bind fun ys e1 => lcGo tg1 (evC ifs1) (fun e => (evE elt e).bind frz) own1 ys (wipe own1 e1)) own xs (wipe own env1) with
      | .ok ds env2 => if ds.length ≤ lineMax then .ok (.n (.list ds)) (back own env1 env2) else .bad
      | _ => .bad
  | .grd f body, env => match evE body env with
    | .ok _ env => strR (C.guard f).els env
    | .ex x env => match (C.guard f).hds.find? fun h => C.sub x.cls h.1 with
      | some h => strR h.2 env
      | none => .bad
    | .bad => .bad
/-- displays' items -/
def evEs : List CE → Env → Out (List D)
  | [], env => .ok [] env
  | e :: es, env => ((evE e env).bind frz).bind fun d env => (evEs es env).bind fun ds env => .ok (d :: ds) env
/-- arguments -/
def evRs (io : Nat → Bool) : Nat → List CE → Env → Out (List RV)
  | _, [], env => .ok [] env
  | n, e :: es, env => ((evE e env).bind fun r env => if io n && isB r then .ok r env else (frz r env).bind fun d env => .ok (.f d) env).bind fun r env =>
      (evRs io (n + 1) es env).bind fun rs env => .ok (r :: rs) env
/-- a comprehension's tests -/
def evC : List CE → Env → Out Bool
  | [], env => .ok true env
  | e :: es, env => (evE e env).bind fun r env => match peek r env with
    | some (.bool true) => evC es env
    | some (.bool false) => .ok false env
    | _ => .bad
/-- what is walked -/
def evI : IT → Env → Out (List D)
  | .seq e, env => ((evE e env).bind frz).bind fun d env => Out.ofO (walkItems d) env
  | .rng e, env => ((evE e env).bind frz).bind fun d env => match d with
    | .int n => if -16000000 ≤ n && n ≤ 16000000 then .ok (rngD 0 n.toNat) env else .bad
    | _ => .bad
  | .rng2 a b, env => ((evE a env).bind frz).bind fun d env => ((evE b env).bind frz).bind fun d' env => match d, d' with
    | .int m, .int n => if -16000000 ≤ m && m ≤ 16000000 && -16000000 ≤ n && n ≤ 16000000 && n - m ≤ 16000000 then .ok (rngD m (n - m).toNat) env else .bad
    | _, _ => .bad
  | .enu e, env => ((evE e env).bind frz).bind fun d env => match walkItems d with
    | some xs => .ok (enuD 0 xs) env
    | none => .bad
  | .zip a b, env => ((evE a env).bind frz).bind fun d env => ((evE b env).bind frz).bind fun d' env => match d, d' with
    | .list xs, .list ys => .ok (zipD xs ys) env
    | .tuple xs, .tuple ys => .ok (zipD xs ys) env
    | _, _ => .bad
end
/-- a test -/
def evT (e : CE) (env : Env) : Out Bool := (evE C e env).bind fun r env => match peek r env with
  | some (.bool b) => .ok b env
  | _ => .bad
def evV (e : CE) (env : Env) : Out D := (evE C e env).bind frz
/-- what a name holds behind a store of it -/
def hold (r : RV) (env : Env) : Out Sl := match r with
  | .n (.list xs) => .ok (.o xs) env
  | .n (.dict kvs) => .ok (.q kvs) env
  | r => (frz r env).bind fun d env => .ok (.v d) env
def evHolds : List CE → Env → Out (List Sl)
  | [], env => .ok [] env
  | e :: es, env => ((evE C e env).bind hold).bind fun s env => (evHolds es env).bind fun ss env => .ok (s :: ss) env
def setAll : List Nat → List Sl → Env → Env
  | i :: is, s :: ss, env => setAll is ss (env.set i s)
  | _, _, env => env
def whileGo (test : Env → Out Bool) (body : Env → Out Fl) : Nat → Env → Out Fl
  | 0, _ => .bad
  | n + 1, env => (test env).bind fun b env => if b then (match body env with
      | .ok .next env => whileGo test body n env
      | .ok .cnt env => whileGo test body n env
      | .ok .brk env => .ok .next env
      | r => r) else .ok .next env
def forGo (tg : TG) (body : Env → Out Fl) : List D → Env → Out Fl
  | [], env => .ok .next env
  | x :: xs, env => match bindT tg x env with
    | none => .bad
    | some env => match body env with
      | .ok .next env => forGo tg body xs env
      | .ok .cnt env => forGo tg body xs env
      | .ok .brk env => .ok .next env
      | r => r
mutual
def evS : CS → Env → Out Fl
  | .asg i e, env => ((evE C e env).bind hold).bind fun s env => .ok .next (env.set i s)
  | .unp tg e, env => (evV C e env).bind fun d env => match bindT tg d env with
    | some env => .ok .next env
    | none => .bad
  | .par is es, env => (evHolds C es env).bind fun ss env => if is.length = ss.length then .ok .next (setAll is ss env) else .bad
  | .sto i ix e, env => (evV C e env).bind fun d env => if bound env i then (evV C ix env).bind fun k env => match env[i]? with
    | some (.o xs) => match k with
      | .int j => match ixN xs.length j with
        | some p => .ok .next (env.set i (.o (xs.set p d)))
        | none => .bad
      | _ => .bad
    | some (.q kvs) => if keyOk k && decide (kvs.length < lineMax) then .ok .next (env.set i (.q (putD k d kvs))) else .bad
    | _ => .bad
    else .bad
  | .apd i e, env => match env[i]? with
    | some (.o _) => (evV C e env).bind fun d env => match env[i]? with
      | some (.o xs) => if xs.length < lineMax then .ok .next (env.set i (.o (xs ++ [d]))) else .bad
      | _ => .bad
    | _ => .bad
  | .exp e, env => (evE C e env).bind fun _ env => .ok .next env
  | .ite c a b, env => (evT C c env).bind fun t env => if t then evSs a env else evSs b env
  | .whl c b, env => whileGo (evT C c) (evSs b) C.turns env
  | .for_ tg it b, env => (evI C it env).bind fun xs env => forGo tg (evSs b) xs env
  | .brk, env => .ok .brk env
  | .cnt, env => .ok .cnt env
  | .pas, env => .ok .next env
  | .ret e, env => (evE C e env).bind fun r env => .ok (.ret r) env
  | .retN, env => .ok (.ret (.f .none)) env
  | .rai c, env => .ex ⟨c, none⟩ env
def evSs : List CS → Env → Out Fl
  | [], env => .ok .next env
  | s :: ss, env => (evS s env).bind fun f env => match f with
    | .next => evSs ss env
    | f => .ok f env
end
end

/-! ### defs -/
structure CF where
  np : Nat
  slots : Nat
  io : List Nat
  body : List CS
  deriving Inhabited
structure Prog where
  fns : List CF
  sub : Nat → Nat → Bool
  guards : List (Nat × Guard)
  turns : Nat
def Prog.io (P : Prog) (f p : Nat) : Bool := match P.fns[f]? with
  | some cf => cf.io.contains p
  | none => false
def Prog.guard (P : Prog) (f : Nat) : Guard := match P.guards.find? (·.1 == f) with
  | some g => g.2
  | none => default
def entry (cf : CF) (ss : List Sl) : Env := ss ++ List.replicate (cf.slots - cf.np) .no
/-- the parameters' slots behind a call: those that are never stored -/
def outPs (io : List Nat) : Nat → Nat → Env → List Sl
  | 0, _, _ => []
  | n + 1, i, env => (if io.contains i then env.getD i .no else .no) :: outPs io n (i + 1) env
/-- what a def hands back: a list of its own is new, a parameter's is not -/
def handBack (cf : CF) (r : RV) (env : Env) : FO := match r with
  | .f d => .ok d false (outPs cf.io cf.np 0 env)
  | .n d => .ok d true (outPs cf.io cf.np 0 env)
  | .b i => if i < cf.np then (match frz r env with
      | .ok d env => .ok d false (outPs cf.io cf.np 0 env)
      | _ => .bad)
    else match env[i]? with
      | some (.v d) => .ok d false (outPs cf.io cf.np 0 env)
      | some (.o xs) => .ok (.list xs) true (outPs cf.io cf.np 0 env)
      | some (.q kvs) => .ok (.dict kvs) true (outPs cf.io cf.np 0 env)
      | _ => .bad
def finish (cf : CF) : Out Fl → FO
  | .ok (.ret r) env => handBack cf r env
  | .ok .next env => .ok .none false (outPs cf.io cf.np 0 env)
  | .ok _ _ => .bad
  | .ex x env => .ex x (outPs cf.io cf.np 0 env)
  | .bad => .bad
def Prog.ctx (P : Prog) (callf : Nat → List Sl → FO) : Ctx := ⟨callf, P.io, P.sub, P.guard, P.turns⟩
def callK (P : Prog) : Nat → Nat → List Sl → FO
  | 0, _, _ => .bad
  | k + 1, f, ss => match P.fns[f]? with
    | none => .bad
    | some cf => if ss.length = cf.np then finish cf (evSs (P.ctx (callK P k)) cf.body (entry cf ss)) else .bad
end Core
end

section
set_option linter.all false
/-! From the kit's syntax trees to core terms. -/
namespace Core
open PySem L2

structure CCx where
  N : List Str
  sc : Scope
  fns : List (Str × Nat)
  cons : List (Str × D)
  clss : List (Str × Nat)
  gds : List Str
  io : List Nat
  lam : Bool
  cel : List Str
  deriving Inhabited

def idx (N : List Str) (x : Str) : Option Nat := N.findIdx? (· == x)
/-- no name that the language treats on its own -/
def tameN (x : Str) : Bool := !(x == "__debug__") && !(x == "__classdict__") && !(x == "__name__")
/-- a name of the def, in sight -/
def CCx.slot (X : CCx) (x : Str) : Option Nat := if tameN x then (match X.sc.names.lookup x with
  | some .local => idx X.N x
  | some .cell => idx X.N x
  | some .free => idx X.N x
  | _ => none) else none
def CCx.own (X : CCx) (x : Str) : Option Nat := match X.sc.names.lookup x with
  | some .local => idx X.N x
  | some .cell => if X.cel.contains x then idx X.N x else none
  | _ => none
def CCx.glob (X : CCx) (x : Str) : Bool := (X.sc.names.lookup x == some .globalImplicit) && tameN x
/-- a name that is the built-in's -/
def CCx.blt (X : CCx) (x : Str) : Bool := X.glob x && (X.fns.lookup x).isNone && (X.cons.lookup x).isNone && (X.clss.lookup x).isNone
def ownNames (N : List Str) (scope : Scope) : List (Str × Nat) :=
  scope.names.filterMap fun p => if p.2 == .local || p.2 == .cell then (idx N p.1).map fun i => (p.1, i) else none
/-- the names that a block may store into its own cells -/
def cells (sc : Scope) : List Str := sc.names.filterMap fun p => if p.2 == .cell then some p.1 else none
/-- inside a comprehension -/
def CCx.blk (X : CCx) (scope : Scope) : CCx := { X with sc := relS scope X.sc, io := [], cel := (cells scope).filter fun x => scope.names.lookup x == some .cell }
def binOp : Operator → Option O2
  | .Add => some .add
  | .Sub => some .sub
  | .Mult => some .mul
  | .FloorDiv => some .fdiv
  | .Mod => some .mod
  | .Pow => some .pow
  | _ => none
def cmpOp : CmpOp → Option O2
  | .Eq => some .eq
  | .NotEq => some .ne
  | .Lt => some .lt
  | .LtE => some .le
  | .Gt => some .gt
  | .GtE => some .ge
  | .In => some .isin
  | .NotIn => some .notin
  | _ => none
def constD : Const → Option D
  | .none => some .none
  | .bool b => some (.bool b)
  | .int i => some (.int i)
  | .str s => if PyData.strOk s then some (.str s) else none
  | _ => none
/-- built-ins of one argument -/
def fn1 (x : Str) : Option O1 :=
  if x == "len" then some .len else if x == "abs" then some .abs else if x == "int" then some .int_ else if x == "tuple" then some .tuple_ else if x == "list" then some .list_
  else if x == "sorted" then some .sorted_ else if x == "all" then some .all_ else if x == "any" then some .any_ else none
def fnSet (x : Str) : Option O1 := if x == "sorted" then some .sset else none
def fnIs (x : Str) : Option O1 := if x == "int" then some .isI else if x == "bool" then some .isB else if x == "tuple" then some .isT else if x == "str" then some .isS else none
def fn2 (x : Str) : Option O2 := if x == "max" then some .max2 else if x == "min" then some .min2 else none
def cplain : Expr → Bool
  | .Slice .. => false
  | _ => true
def andAll : List CE → Option CE
  | [] => none
  | [e] => some e
  | e :: r => (andAll r).map (.and_ e)
def orAll : List CE → Option CE
  | [] => none
  | [e] => some e
  | e :: r => (orAll r).map (.or_ e)

def compL {α : Type} (f : Expr → Option α) : List Expr → Option (List α)
  | [] => some []
  | e :: es => match f e, compL f es with
    | some c, some cs => some (c :: cs)
    | _, _ => none
def compLO {α : Type} (f : Expr → Option α) : List (Option Expr) → Option (List α)
  | [] => some []
  | some e :: es => match f e, compLO f es with
    | some c, some cs => some (c :: cs)
    | _, _ => none
  | none :: _ => none
def compT : Nat → CCx → Expr → Option TG
  | n + 1, X, .Name x _ => match X.own x with
    | some i => if X.io.contains i then none else some (.nm i)
    | none => none
  | n + 1, X, .Tuple es _ _ => (compL (compT n X) es).map .tp
  | _, _, _ => none
mutual
def tgNames : TG → List Nat
  | .nm i => [i]
  | .tp ts => tgAll ts
def tgAll : List TG → List Nat
  | [] => []
  | t :: r => tgNames t ++ tgAll r
end
def isNameE : Expr → Bool
  | .Name .. => true
  | _ => false
def isTupE : Expr → Bool
  | .Tuple .. => true
  | _ => false
/-- the def's guard: f(lambda: body) -/
def lamBody : List Expr → Option (Expr × Scope)
  | [.Lambda ⟨[], [], none, [], [], none, []⟩ body scope _] => some (body, scope)
  | _ => none
/-- set(e) -/
def setArg (X : CCx) : Expr → Option Expr
  | .Call (.Name g _) [a] [] _ => if g == "set" && X.blt g then some a else none
  | _ => none
/-- list(range(e)) -/
def rngArg (X : CCx) : Expr → Option Expr
  | .Call (.Name g _) [a] [] _ => if g == "range" && X.blt g then some a else none
  | _ => none
/-- int, bool, tuple, str as isinstance's second argument -/
def tyArg (X : CCx) : Expr → Option O1
  | .Name t _ => if X.blt t then fnIs t else none
  | _ => none
section
variable (X : CCx) (f : Expr → Option CE)
def cName (x : Str) : Option CE := match X.slot x with
  | some i => some (.var i)
  | none => if X.glob x then (X.cons.lookup x).map .cst else none
def cPairs : List (Option Expr) → List Expr → Option (List CE)
  | [], [] => some []
  | some k :: ks, v :: vs => match f k, f v, cPairs ks vs with
    | some a, some b, some r => some (a :: b :: r)
    | _, _, _ => none
  | _, _ => none
def cDict (ks : List (Option Expr)) (vs : List Expr) : Option CE := if 0 < ks.length && ks.length ≤ 15 then (cPairs f ks vs).map .dct else none
def cBin (l : Expr) (op : Operator) (r : Expr) : Option CE := match binOp op, f l, f r with
  | some o, some a, some b => some (.o2 o a b)
  | _, _, _ => none
def cUn (op : UnaryOp) (a : Expr) : Option CE := match op with
  | .USub => (f a).map (.o1 .neg)
  | .Not => (f a).map .not_
  | _ => none
def cBool (op : BoolOp) (vs : List Expr) : Option CE := match op with
  | .And => (compL f vs).bind andAll
  | .Or => (compL f vs).bind orAll
def cIf (c a b : Expr) : Option CE := match f c, f a, f b with
  | some c, some a, some b => some (.ite c a b)
  | _, _, _ => none
def cIs (neg : Bool) (a b : Expr) : Option CE := match b with
  | .Constant .none _ _ => (f a).map (.o1 (if neg then .notC .none else .isC .none))
  | .Constant (.bool c) _ _ => (f a).map (.o1 (if neg then .notC (.bool c) else .isC (.bool c)))
  | _ => none
def cCmp1 (a : Expr) (op : CmpOp) (b : Expr) : Option CE := match op with
  | .Is => cIs f false a b
  | .IsNot => cIs f true a b
  | op => match cmpOp op, f a, f b with
    | some o, some a, some b => some (.o2 o a b)
    | _, _, _ => none
def cCmp2 (a : Expr) (op op' : CmpOp) (b c : Expr) : Option CE := match cmpOp op, cmpOp op', f a, f b, f c with
  | some o, some p, some a, some b, some c => some (.chn o p a b c)
  | _, _, _, _, _ => none
def cCmp (a : Expr) (ops : List CmpOp) (bs : List Expr) : Option CE := match ops, bs with
  | [op], [b] => cCmp1 f a op b
  | [op, op'], [b, c] => cCmp2 f a op op' b c
  | _, _ => none
def optE : Option Expr → Option (List CE)
  | none => some []
  | some e => (f e).map fun c => [c]
def cSub (a i : Expr) : Option CE := match i with
  | .Slice lo hi none _ => match f a, optE f lo, optE f hi with
    | some a, some l, some h => some (.slc a l h)
    | _, _, _ => none
  | i => if cplain i then match f a, f i with
    | some a, some i => some (.o2 .idx a i)
    | _, _ => none else none
/-- a built-in's call with one argument -/
def cFn1 (x : Str) (a : Expr) : Option CE := match fnSet x, setArg X a with
  | some o, some b => (f b).map (.o1 o)
  | _, _ => match x == "list", rngArg X a with
    | true, some b => (f b).map (.o1 .lrng)
    | _, _ => match fn1 x, f a with
      | some o, some c => some (.o1 o c)
      | _, _ => none
def cFn2 (x : Str) (a b : Expr) : Option CE := if x == "isinstance" then match tyArg X b, f a with
    | some o, some c => some (.o1 o c)
    | _, _ => none
  else match fn2 x, f a, f b with
    | some o, some c, some d => some (.o2 o c d)
    | _, _, _ => none
def cFn (x : Str) (args : List Expr) : Option CE := match args with
  | [a] => cFn1 X f x a
  | [a, b] => cFn2 X f x a b
  | _ => none
def cGrd (g : CCx → Expr → Option CE) (k : Nat) (args : List Expr) : Option CE := match lamBody args with
  | some (body, scope) => if X.lam && LamX.lamSB X.sc scope then (g { X with sc := scope, lam := false, cel := [] } body).map (.grd k) else none
  | none => none
def cName1 (g : CCx → Expr → Option CE) (x : Str) (args : List Expr) : Option CE := if X.glob x then match X.fns.lookup x with
    | some k => if X.gds.contains x then cGrd X g k args else if args.isEmpty then none else (compL f args).map (.call k)
    | none => if X.blt x then cFn X f x args else none
  else none
def cMeth (o : Expr) (m : Str) (apos : Pos) (args : List Expr) (cpos : Pos) : Option CE := if m == "index" && isNameE o && apos.endLine == cpos.line then match args with
    | [a] => match f o, f a with
      | some c, some d => some (.ixo c d)
      | _, _ => none
    | _ => none
  else none
def cCall (g : CCx → Expr → Option CE) (fe : Expr) (args : List Expr) (kws : List Keyword) (cpos : Pos) : Option CE := match kws with
  | [] => match fe with
    | .Name x _ => cName1 X f g x args
    | .Attribute o m apos => cMeth f o m apos args cpos
    | _ => none
  | _ => none
def cLc (t : CCx → Expr → Option TG) (g : CCx → Expr → Option CE) (it : Expr → Expr → Option IT) (elt : Expr) (gens : List Comprehension) (scope : Scope) : Option CE := match gens with
  | [⟨tg, iter, ifs, 0⟩] => if blkC X.N X.sc scope (ownNames X.N scope) && decide (ifs.length ≤ 1) then
      match it tg iter, t (X.blk scope) tg, compL (g (X.blk scope)) ifs, g (X.blk scope) elt with
      | some it, some t, some cs, some c => if (tgNames t).all (((ownNames X.N scope).map (·.2)).contains ·) then some (.lc c t it cs ((ownNames X.N scope).map (·.2))) else none
      | _, _, _, _ => none
    else none
  | _ => none
def cIt1 (tg : Expr) (x : Str) (a : Expr) : Option IT := if X.blt x && x == "range" then (f a).map .rng
  else if X.blt x && x == "enumerate" && isTupE tg then (f a).map .enu else none
def cIt2 (tg : Expr) (x : Str) (a b : Expr) : Option IT := if X.blt x && x == "range" then match f a, f b with
    | some a, some b => some (.rng2 a b)
    | _, _ => none
  else if X.blt x && x == "zip" && isTupE tg then match f a, f b with
    | some a, some b => some (.zip a b)
    | _, _ => none
  else none
def cItC (tg e : Expr) : Option IT := match e with
  | .Call (.Name x _) [a] [] _ => cIt1 X f tg x a
  | .Call (.Name x _) [a, b] [] _ => cIt2 X f tg x a b
  | _ => none
def cIt (tg e : Expr) : Option IT := match cItC X f tg e with
  | some it => some it
  | none => (f e).map .seq
end
def compE : Nat → CCx → Expr → Option CE
  | 0, _, _ => none
  | n + 1, X, e => match e with
    | .Name x _ => cName X x
    | .Constant c _ _ => (constD c).map .cst
    | .Tuple es _ _ => if es.length ≤ 1000 then (compL (compE n X) es).map .tup else none
    | .List es _ => if es.length ≤ 1000 then (compL (compE n X) es).map .lst else none
    | .Dict ks vs _ => cDict (compE n X) ks vs
    | .BinOp l op r _ => cBin (compE n X) l op r
    | .UnaryOp op a _ => cUn (compE n X) op a
    | .BoolOp op vs _ => cBool (compE n X) op vs
    | .IfExp c a b _ => cIf (compE n X) c a b
    | .Compare a ops bs _ => cCmp (compE n X) a ops bs
    | .Subscript a i _ => cSub (compE n X) a i
    | .Call fe args kws cpos => cCall X (compE n X) (compE n) fe args kws cpos
    | .ListComp elt gens scope _ => cLc X (compT n) (compE n) (cIt X (compE n X)) elt gens scope
    | _ => none
def compI (n : Nat) (X : CCx) (tg e : Expr) : Option IT := cIt X (compE n X) tg e

def isStarE : Expr → Bool
  | .Starred .. => true
  | _ => false
/-- which names a, b = x, y stores from the right (none: the pair is made and taken apart) -/
def swN (sc : Scope) (ts vs : List Expr) : Option (Option (List Str)) :=
  if !(ts.length == 2 || ts.length == 3) || vs.length != ts.length then some none
  else if vs.any isStarE then some none
  else
    let names := ts.filterMap fun
      | .Name id pos => if sc.names.lookup id == some .local && pos.line == (ts.head?.map (·.pos.line)).getD 0 then some id else none
      | _ => none
    if names.length != ts.length || names.eraseDups.length != names.length then some none
    else if vs.all (foldedForSure 8) then some none
    else if vs.all (constantsAlone 8) then none
    else some (some names)
def nodupB : List Nat → Bool
  | [] => true
  | x :: xs => !xs.contains x && nodupB xs
def locB (X : CCx) (x : Str) : Bool := X.sc.names.lookup x == some .local
/-- a, b = x, y, stored from the right -/
def cPar (X : CCx) (f : Expr → Option CE) (ns : List Str) (ts vs : List Expr) : Option CS := match ts, vs with
  | [.Name x _, .Name y _], [a, b] => match X.own x, X.own y, f a, f b with
    | some i, some j, some c, some d => if ns == [x, y] && locB X x && locB X y && nodupB [i, j] && !X.io.contains i && !X.io.contains j then some (.par [i, j] [c, d]) else none
    | _, _, _, _ => none
  | [.Name x _, .Name y _, .Name z _], [a, b, e] => match X.own x, X.own y, X.own z, f a, f b, f e with
    | some i, some j, some l, some c, some d, some g => if ns == [x, y, z] && locB X x && locB X y && locB X z && nodupB [i, j, l] && !X.io.contains i && !X.io.contains j && !X.io.contains l then some (.par [i, j, l] [c, d, g]) else none
    | _, _, _, _, _, _ => none
  | _, _ => none
/-- the places of plain names -/
def nameIx (X : CCx) : Expr → Option Nat
  | .Name x _ => X.own x
  | _ => none
/-- a, b = x, y by way of the pair -/
def cParT (X : CCx) (f : Expr → Option CE) (ts vs : List Expr) : Option CS := match compL (nameIx X) ts, compL f vs with
  | some is, some cs => if is.length == cs.length && cs.length ≤ 1000 && nodupB is && is.all (fun i => !X.io.contains i) then some (.par is cs) else none
  | _, _ => none
def cUnp (f : Expr → Option CE) (t : Option TG) (e : Expr) : Option CS := match t, f e with
  | some t, some c => some (.unp t c)
  | _, _ => none
def tupOf : Expr → Option (List Expr)
  | .Tuple vs _ _ => some vs
  | _ => none
def cTupS (X : CCx) (f : Expr → Option CE) (t : Option TG) (ts : List Expr) (e : Expr) : Option CS := match tupOf e with
  | some vs => match swN X.sc ts vs with
    | some (some ns) => cPar X f ns ts vs
    | some none => match cParT X f ts vs with
      | some c => some c
      | none => cUnp f t e
    | none => none
  | none => cUnp f t e
mutual
def compS : Nat → CCx → Stmt → Option CS
  | 0, _, _ => none
  | n + 1, X, s => match s with
    | .Assign [.Name x _] e _ => match X.own x, compE n X e with
      | some i, some c => if X.io.contains i then none else some (.asg i c)
      | _, _ => none
    | .Assign [.Tuple ts k p] e _ => cTupS X (compE n X) (compT n X (.Tuple ts k p)) ts e
    | .Assign [.Subscript (.Name x _) ix _] e _ => if cplain ix then match X.slot x, compE n X ix, compE n X e with
        | some i, some k, some c => some (.sto i k c)
        | _, _, _ => none
      else none
    | .Expr (.Call (.Attribute (.Name x _) m apos) [a] [] cpos) _ => if m == "append" && apos.endLine == cpos.line then match X.slot x, compE n X a with
        | some i, some c => some (.apd i c)
        | _, _ => none
      else none
    | .Expr e _ => match e with
      | .Call .. => (compE n X e).map .exp
      | _ => none
    | .If c a b _ => match compE n X c, compSs n X a, compSs n X b with
      | some c, some a, some b => some (.ite c a b)
      | _, _, _ => none
    | .While c b [] _ => match compE n X c, compSs n X b with
      | some c, some b => some (.whl c b)
      | _, _ => none
    | .For tg iter b [] _ => match compT n X tg, compI n X tg iter, compSs n X b with
      | some t, some it, some b => some (.for_ t it b)
      | _, _, _ => none
    | .Break _ => some .brk
    | .Continue _ => some .cnt
    | .Pass _ => some .pas
    | .Return (some e) _ => (compE n X e).map .ret
    | .Return none _ => some .retN
    | .Raise (some (.Call (.Name c _) [.Constant (.str _) _ _] [] _)) none _ => if X.glob c then (X.clss.lookup c).map .rai else none
    | _ => none
def compSs : Nat → CCx → List Stmt → Option (List CS)
  | 0, _, _ => none
  | n + 1, X, ss => match ss with
    | [] => some []
    | s :: r => match compS n X s, compSs n X r with
      | some c, some cs => some (c :: cs)
      | _, _ => none
end

/-- a def's entry in the table: its name, its names by slot, its parameters that are never stored -/
structure FnE where
  place : Nat
  names : List Str
  N : List Str
  io : List Nat
  lam : Bool
  deriving Inhabited
/-- a program's table -/
structure Tab where
  fns : List FnE
  cons : List (Str × D)
  clss : List (Str × Nat)
  gds : List Str
def namesFrom : Nat → List FnE → List (Str × Nat)
  | _, [] => []
  | i, f :: r => f.names.map (fun x => (x, i)) ++ namesFrom (i + 1) r
def Tab.cx (T : Tab) (N : List Str) (sc : Scope) (io : List Nat) (lam : Bool) : CCx := ⟨N, sc, namesFrom 0 T.fns, T.cons, T.clss, T.gds, io, lam, cells sc⟩
def compF (T : Tab) (body : List Stmt) (f : FnE) : Option CF := match body[f.place]? with
  | some (.FunctionDef _ a b _ _ _ sc _ _ _) => (compSs 60 (T.cx f.N sc f.io f.lam) b).map fun c => ⟨a.args.length, f.N.length, f.io, c⟩
  | _ => none
end Core
end

section
set_option Elab.async false
set_option linter.all false
set_option maxRecDepth 100000
set_option autoImplicit false
set_option maxHeartbeats 1000000
/-! Soundness 1: data at values, the state's relation, the readings. -/
namespace Core
open PySem PySem.Spec PyProof.Rows L2

/-! ### data at values -/
def keyD : Key → D
  | .inl i => .int i
  | .inr x => .str x
mutual
inductive Rp (K : PySem.W.Frag) (G : Hp) : V → D → Prop
  | non : Rp K G .non .none
  | bl (b : Bool) : Rp K G (.bl b) (.bool b)
  | int (i : Int) : Rp K G (.int i) (.int i)
  | str (x : Str) : PyData.strOk x = true → Rp K G (.str x) (.str x)
  | lst {a : Addr} {xs : List V} {ds : List D} : SqL K G a xs → ds.length ≤ lineMax → RpAll K G xs ds → Rp K G (.ref a) (.list ds)
  | tup {a : Addr} {xs : List V} {ds : List D} : SqT K G a xs → ds.length ≤ lineMax → RpAll K G xs ds → Rp K G (.ref a) (.tuple ds)
  | dct {a : Addr} {kvs : List (Key × V)} {ds : List (D × D)} : G a = some (.dK kvs) → RpKv K G kvs ds → Rp K G (.ref a) (.dict ds)
inductive RpAll (K : PySem.W.Frag) (G : Hp) : List V → List D → Prop
  | nil : RpAll K G [] []
  | cons {v : V} {vs : List V} {d : D} {ds : List D} : Rp K G v d → RpAll K G vs ds → RpAll K G (v :: vs) (d :: ds)
inductive RpKv (K : PySem.W.Frag) (G : Hp) : List (Key × V) → List (D × D) → Prop
  | nil : RpKv K G [] []
  | cons {k : Key} {v : V} {kvs : List (Key × V)} {d : D} {ds : List (D × D)} : Rp K G (kV k) (keyD k) → Rp K G v d → RpKv K G kvs ds → RpKv K G ((k, v) :: kvs) ((keyD k, d) :: ds)
end

theorem Same.rd {H H' : Hp} {a : Addr} {u : HO} (e : Same H H') (h : Rd H a u) : Rd H' a u := by
  rcases h with h | ⟨o, h⟩
  · exact .inl (e _ _ h)
  · exact .inr ⟨o, e _ _ h⟩
theorem Same.seqL {K : PySem.W.Frag} {H H' : Hp} {a : Addr} {xs : List V} (e : Same H H') (h : SqL K H a xs) : SqL K H' a xs := by
  rcases h with (h | ⟨o, h⟩) | h
  · exact .inl (.inl (e _ _ h))
  · exact .inl (.inr ⟨o, e _ _ h⟩)
  · exact .inr h
theorem Same.seqT {K : PySem.W.Frag} {H H' : Hp} {a : Addr} {xs : List V} (e : Same H H') (h : SqT K H a xs) : SqT K H' a xs := by
  rcases h with (h | ⟨o, h⟩) | h
  · exact .inl (.inl (e _ _ h))
  · exact .inl (.inr ⟨o, e _ _ h⟩)
  · exact .inr h
section
variable {K : PySem.W.Frag} {G G' : Hp}
mutual
theorem Rp.mono (e : Same G G') : ∀ (d : D) (v : V), Rp K G v d → Rp K G' v d
  | .none, _, h => by cases h; exact .non
  | .bool _, _, h => by cases h; exact .bl _
  | .int _, _, h => by cases h; exact .int _
  | .str _, _, h => by cases h with | str _ q => exact .str _ q
  | .list ds, _, h => by cases h with | lst a z b => exact .lst (Same.seqL e a) z (RpAll.mono e ds _ b)
  | .tuple ds, _, h => by cases h with | tup a z b => exact .tup (Same.seqT e a) z (RpAll.mono e ds _ b)
  | .dict ds, _, h => by cases h with | dct a b => exact .dct (e _ _ a) (RpKv.mono e ds _ b)
theorem RpAll.mono (e : Same G G') : ∀ (ds : List D) (vs : List V), RpAll K G vs ds → RpAll K G' vs ds
  | [], _, h => by cases h; exact .nil
  | d :: ds, _, h => by cases h with | cons a b => exact .cons (Rp.mono e d _ a) (RpAll.mono e ds _ b)
theorem RpKv.mono (e : Same G G') : ∀ (ds : List (D × D)) (kvs : List (Key × V)), RpKv K G kvs ds → RpKv K G' kvs ds
  | [], _, h => by cases h; exact .nil
  | (_, d) :: ds, _, h => by
    cases h with
    | @cons k' _ _ _ _ k a b =>
      refine .cons ?_ (Rp.mono e d _ a) (RpKv.mono e ds _ b)
      cases k' with
      | inl i => exact .int i
      | inr x => cases k with | str _ q => exact .str _ q
end
end
theorem RpAll.length {K : PySem.W.Frag} {G : Hp} : ∀ {vs : List V} {ds : List D}, RpAll K G vs ds → vs.length = ds.length
  | _, _, .nil => rfl
  | _, _, .cons _ t => congrArg (· + 1) (RpAll.length t)
theorem RpAll.get {K : PySem.W.Frag} {G : Hp} : ∀ {vs : List V} {ds : List D} {i : Nat} {d : D}, RpAll K G vs ds → ds[i]? = some d → ∃ v, vs[i]? = some v ∧ Rp K G v d
  | _, _, _, _, .nil, h => by simp at h
  | _, _, 0, _, .cons r _, h => by simp at h; subst h; exact ⟨_, rfl, r⟩
  | _, _, i + 1, d, .cons _ t, h => by
    obtain ⟨v, e, r⟩ := RpAll.get (i := i) t (by simpa using h)
    exact ⟨v, by simpa using e, r⟩
theorem RpAll.getV {K : PySem.W.Frag} {G : Hp} : ∀ {vs : List V} {ds : List D} {i : Nat} {v : V}, RpAll K G vs ds → vs[i]? = some v → ∃ d, ds[i]? = some d ∧ Rp K G v d
  | _, _, _, _, .nil, h => by simp at h
  | _, _, 0, _, .cons r _, h => by simp at h; subst h; exact ⟨_, rfl, r⟩
  | _, _, i + 1, d, .cons _ t, h => by
    obtain ⟨v, e, r⟩ := RpAll.getV (i := i) t (by simpa using h)
    exact ⟨v, by simpa using e, r⟩
theorem RpAll.append {K : PySem.W.Frag} {G : Hp} : ∀ {vs ws : List V} {ds es : List D}, RpAll K G vs ds → RpAll K G ws es → RpAll K G (vs ++ ws) (ds ++ es)
  | _, _, _, _, .nil, h => h
  | _, _, _, _, .cons r t, h => .cons r (RpAll.append t h)
theorem RpAll.drop {K : PySem.W.Frag} {G : Hp} : ∀ {vs : List V} {ds : List D} (n : Nat), RpAll K G vs ds → RpAll K G (vs.drop n) (ds.drop n)
  | _, _, 0, h => h
  | _, _, n + 1, .nil => .nil
  | _, _, n + 1, .cons _ t => RpAll.drop n t
theorem RpAll.take {K : PySem.W.Frag} {G : Hp} : ∀ {vs : List V} {ds : List D} (n : Nat), RpAll K G vs ds → RpAll K G (vs.take n) (ds.take n)
  | _, _, 0, _ => .nil
  | _, _, n + 1, .nil => .nil
  | _, _, n + 1, .cons r t => .cons r (RpAll.take n t)
theorem RpAll.set {K : PySem.W.Frag} {G : Hp} {v : V} {d : D} (r : Rp K G v d) : ∀ {vs : List V} {ds : List D} (i : Nat), RpAll K G vs ds → RpAll K G (vs.set i v) (ds.set i d)
  | _, _, _, .nil => .nil
  | _, _, 0, .cons _ t => .cons r t
  | _, _, i + 1, .cons q t => .cons q (RpAll.set r i t)

/-! ### the kit's own data relation -/
theorem dep_ok : ∀ d : D, dep d ≤ 64 → PyData.depth d ≤ dep d := by
  intro d
  exact (PyData.rec (motive_1 := fun d => dep d ≤ 64 → PyData.depth d ≤ dep d) (motive_2 := fun ds => depAll ds ≤ 64 → PyData.depthAll ds ≤ depAll ds) (motive_3 := fun _ => True) (motive_4 := fun _ => True)
    (by intro _; simp [PyData.depth]) (by intro _ _; simp [PyData.depth]) (by intro _ _; simp [PyData.depth]) (by intro _ _; simp [PyData.depth])
    (by
      intro xs ih h
      have h2 : depAll xs + 1 ≤ 64 := h
      have := ih (by omega)
      show PyData.depthAll xs + 1 ≤ depAll xs + 1
      omega)
    (by
      intro xs ih h
      have h2 : depAll xs + 1 ≤ 64 := h
      have := ih (by omega)
      show PyData.depthAll xs + 1 ≤ depAll xs + 1
      omega)
    (by
      intro kvs _ h
      have h2 : (1000 : Nat) ≤ 64 := h
      omega)
    (by intro _; simp [PyData.depthAll])
    (by
      intro x xs h1 h2 h
      have h3 : max (dep x) (depAll xs) ≤ 64 := h
      have a := h1 (by omega)
      have b := h2 (by omega)
      show max (PyData.depth x) (PyData.depthAll xs) ≤ max (dep x) (depAll xs)
      omega)
    trivial (fun _ _ _ _ => trivial) (fun _ _ _ _ => trivial) d)
mutual
theorem Rp.dp {K : PySem.W.Frag} {G H : Hp} (e : Same G H) : ∀ (d : D) (v : V), Rp K G v d → dep d ≤ 64 → Dp K H v d ∧ PyData.canLay0 d = true
  | .none, _, h, _ => by cases h; exact ⟨.non, rfl⟩
  | .bool _, _, h, _ => by cases h; exact ⟨.bl _, rfl⟩
  | .int _, _, h, _ => by cases h; exact ⟨.int _, rfl⟩
  | .str _, _, h, _ => by cases h with | str _ q => exact ⟨.str _, q⟩
  | .list ds, _, h, k => by
    cases h with
    | lst a z b =>
      have k2 : depAll ds + 1 ≤ 64 := k
      obtain ⟨h1, h2⟩ := RpAll.dp e ds _ b (by omega)
      exact ⟨.lst (Same.seqL e a) h1, h2⟩
  | .tuple ds, _, h, k => by
    cases h with
    | tup a z b =>
      have k2 : depAll ds + 1 ≤ 64 := k
      obtain ⟨h1, h2⟩ := RpAll.dp e ds _ b (by omega)
      exact ⟨.tup (Same.seqT e a) h1, h2⟩
  | .dict ds, _, h, k => by
    have k2 : (1000 : Nat) ≤ 64 := k
    omega
theorem RpAll.dp {K : PySem.W.Frag} {G H : Hp} (e : Same G H) : ∀ (ds : List D) (vs : List V), RpAll K G vs ds → depAll ds ≤ 64 → DpAll K H vs ds ∧ PyData.canLayAll0 ds = true
  | [], _, h, _ => by cases h; exact ⟨.nil, rfl⟩
  | d :: ds, _, h, k => by
    cases h with
    | cons a b =>
      have k2 : max (dep d) (depAll ds) ≤ 64 := k
      obtain ⟨h1, h2⟩ := Rp.dp e d _ a (by omega)
      obtain ⟨h3, h4⟩ := RpAll.dp e ds _ b (by omega)
      exact ⟨.cons h1 h3, by show (PyData.canLay0 d && PyData.canLayAll0 ds) = true; rw [h2, h4]; rfl⟩
end
theorem shaped_of {d : D} (h : dep d ≤ 64) (c : PyData.canLay0 d = true) : SeqAt.shaped d = true := by
  unfold SeqAt.shaped
  rw [c, Bool.true_and]
  exact decide_eq_true (Nat.le_trans (dep_ok d h) h)

/-! ### what may be looked at: a datum, or a list (a dict) that stands in H -/
inductive Pk (K : PySem.W.Frag) (G H : Hp) : V → D → Prop
  | rp {v : V} {d : D} : Rp K G v d → Pk K G H v d
  | lst {a : Addr} {xs : List V} {ds : List D} : H a = some (.lst xs) → ds.length ≤ lineMax → RpAll K G xs ds → Pk K G H (.ref a) (.list ds)
  | dct {a : Addr} {kvs : List (Key × V)} {ds : List (D × D)} : H a = some (.dK kvs) → RpKv K G kvs ds → Pk K G H (.ref a) (.dict ds)
theorem Pk.dp {K : PySem.W.Frag} {G H : Hp} {v : V} {d : D} (e : Same G H) (h : Pk K G H v d) (k : okD d = true) : Dp K H v d ∧ SeqAt.shaped d = true := by
  have k : dep d ≤ 64 := of_decide_eq_true k
  cases h with
  | rp h =>
    obtain ⟨h1, h2⟩ := Rp.dp e d v h k
    exact ⟨h1, shaped_of k h2⟩
  | @lst a xs ds h1 z h2 =>
    have k2 : depAll ds + 1 ≤ 64 := k
    obtain ⟨h3, h4⟩ := RpAll.dp e ds _ h2 (by omega)
    exact ⟨.lst (SqL.of h1) h3, shaped_of k h4⟩
  | @dct a xs ds h1 h2 =>
    have k2 : (1000 : Nat) ≤ 64 := k
    omega
theorem Pk.list {K : PySem.W.Frag} {G H : Hp} {v : V} {ds : List D} (e : Same G H) (h : Pk K G H v (.list ds)) : ∃ a xs, v = .ref a ∧ SqL K H a xs ∧ RpAll K G xs ds ∧ ds.length ≤ lineMax := by
  cases h with
  | rp h => cases h with | lst a z b => exact ⟨_, _, rfl, Same.seqL e a, b, z⟩
  | lst a z b => exact ⟨_, _, rfl, .inl (.inl a), b, z⟩
theorem Pk.tuple {K : PySem.W.Frag} {G H : Hp} {v : V} {ds : List D} (e : Same G H) (h : Pk K G H v (.tuple ds)) : ∃ a xs, v = .ref a ∧ SqT K H a xs ∧ SqT K G a xs ∧ RpAll K G xs ds ∧ ds.length ≤ lineMax := by
  cases h with
  | rp h => cases h with | tup a z b => exact ⟨_, _, rfl, Same.seqT e a, a, b, z⟩
theorem Pk.int {K : PySem.W.Frag} {G H : Hp} {v : V} {i : Int} (h : Pk K G H v (.int i)) : v = .int i := by
  cases h with
  | rp h => cases h; rfl
theorem Pk.bool {K : PySem.W.Frag} {G H : Hp} {v : V} {b : Bool} (h : Pk K G H v (.bool b)) : v = .bl b := by
  cases h with
  | rp h => cases h; rfl
theorem Pk.str {K : PySem.W.Frag} {G H : Hp} {v : V} {x : Str} (h : Pk K G H v (.str x)) : v = .str x ∧ PyData.strOk x = true := by
  cases h with
  | rp h => cases h with | str _ q => exact ⟨rfl, q⟩
theorem Pk.none {K : PySem.W.Frag} {G H : Hp} {v : V} (h : Pk K G H v .none) : v = .non := by
  cases h with
  | rp h => cases h; rfl
theorem Pk.dict {K : PySem.W.Frag} {G H : Hp} {v : V} {ds : List (D × D)} (e : Same G H) (h : Pk K G H v (.dict ds)) : ∃ a kvs, v = .ref a ∧ H a = some (.dK kvs) ∧ RpKv K G kvs ds := by
  cases h with
  | rp h => cases h with | dct a b => exact ⟨_, _, rfl, e _ _ a, b⟩
  | dct a b => exact ⟨_, _, rfl, a, b⟩

/-! ### the state -/
def ownAt (env : Env) (σ : L2.St) (i : Nat) (a : Addr) : Prop := (∃ s, env[i]? = some s ∧ isOwn s = true) ∧ σ[i]? = some (some (.ref a))
def SlR (K : PySem.W.Frag) (B G : Hp) (σ : L2.St) (H : Hp) (i : Nat) : Sl → Prop
  | .no => True
  | .v d => ∃ v, σ[i]? = some (some v) ∧ Rp K G v d
  | .o xs => xs.length ≤ lineMax ∧ ∃ a vs, σ[i]? = some (some (.ref a)) ∧ H a = some (.lst vs) ∧ G a = none ∧ B a = none ∧ RpAll K G vs xs
  | .q kvs => ∃ a vs, σ[i]? = some (some (.ref a)) ∧ H a = some (.dK vs) ∧ G a = none ∧ B a = none ∧ RpKv K G vs kvs
/-- the tables of code objects that a lambda's making writes: nothing else is kept there -/
structure TabR (T : List (Addr × Str)) (B G H : Hp) : Prop where
  tabs : LamX.Tabs T H
  b : ∀ p ∈ T, B p.1 = none
  g : ∀ p ∈ T, G p.1 = none
  bn : ∀ a ps, B a ≠ some (.tbl ps)
  gn : ∀ a ps, G a ≠ some (.tbl ps)
theorem TabR.at {T : List (Addr × Str)} {B G H : Hp} (h : TabR T B G H) {p : Addr × Str} (hp : p ∈ T) : ∃ ps, H p.1 = some (.tbl ps) := let ⟨ps, e, _⟩ := h.tabs p hp; ⟨ps, e⟩
structure R (K : PySem.W.Frag) (T : List (Addr × Str)) (B G : Hp) (env : Env) (σ : L2.St) (H : Hp) : Prop where
  tab : TabR T B G H
  len : env.length = σ.length
  gh : Same G H
  bh : Same B H
  slot : ∀ i s, env[i]? = some s → SlR K B G σ H i s
  apart : ∀ i j a, ownAt env σ i a → ownAt env σ j a → i = j
/-- what is known for good grows; what is new in it was not kept apart -/
structure GX (B G G' : Hp) : Prop where
  same : Same G G'
  new : ∀ a o, G' a = some o → G a = some o ∨ B a = none
theorem GX.refl (B G : Hp) : GX B G G := ⟨Same.refl G, fun _ _ h => .inl h⟩
theorem GX.trans {B G G1 G2 : Hp} (a : GX B G G1) (b : GX B G1 G2) : GX B G G2 := ⟨a.same.trans b.same, fun c o h => by
  rcases b.new c o h with h | h
  · exact a.new c o h
  · exact .inr h⟩
/-- of B alone what is apart counts -/
theorem GX.weak {B B1 G G' : Hp} (h : GX B1 G G') (k : Same B B1) : GX B G G' := ⟨h.same, fun a o q => by
  rcases h.new a o q with z | z
  · exact .inl z
  · refine .inr ?_
    cases e : B a with
    | none => rfl
    | some u => rw [k a u e] at z; cases z⟩
theorem none_of_same {B H : Hp} (e : Same B H) {a : Addr} (h : H a = none) : B a = none := by
  cases q : B a with
  | none => rfl
  | some o => rw [e a o q] at h; cases h
section
variable {K : PySem.W.Frag} {T : List (Addr × Str)} {B G G' H H' : Hp} {env : Env} {σ : L2.St}
theorem TabR.weak {B1 : Hp} (t : TabR T B1 G H) (k : Same B B1) : TabR T B G H := ⟨t.tabs, fun p hp => none_of_same k (t.b p hp), t.g, fun a ps e => t.bn a ps (k _ _ e), t.gn⟩
theorem TabR.laid (t : TabR T B G H) (h1 : Same H H') (h2 : ∀ a o, G' a = some o → G a = some o ∨ H a = none) (h3 : ∀ a ps, G' a = some (.tbl ps) → G a = some (.tbl ps)) : TabR T B G' H' := by
  refine ⟨t.tabs.ext h1, t.b, fun p hp => ?_, t.bn, fun a ps e => t.gn a ps (h3 a ps e)⟩
  obtain ⟨ps, e⟩ := t.at hp
  cases q : G' p.1 with
  | none => rfl
  | some u =>
    rcases h2 _ _ q with z | z
    · rw [t.g p hp] at z; cases z
    · rw [e] at z; cases z
def notTbl (o : HO) : Prop := ∀ ps, o ≠ .tbl ps
theorem TabR.ne (t : TabR T B G H) {a : Addr} {o : HO} (e : H a = some o) (n : notTbl o) {p : Addr × Str} (hp : p ∈ T) : p.1 ≠ a := fun z => by
  obtain ⟨ps, e2⟩ := t.at hp
  rw [z, e] at e2
  exact n ps (Option.some.inj e2)
theorem upd_nt {G : Hp} {a : Addr} {o : HO} (n : notTbl o) (g : ∀ a ps, G a ≠ some (.tbl ps)) : ∀ b ps, upd G a o b ≠ some (.tbl ps) := fun b ps e => by
  by_cases z : b = a
  · subst z; rw [upd_same] at e; exact n ps (Option.some.inj e)
  · rw [upd_ne z] at e; exact g b ps e
theorem TabR.updG (t : TabR T B G H) {a : Addr} {o : HO} (e : H a = some o) (n : notTbl o) : TabR T B (upd G a o) H := ⟨t.tabs, t.b, fun p hp => by rw [upd_ne (t.ne e n hp)]; exact t.g p hp, t.bn, upd_nt n t.gn⟩
theorem TabR.updB (t : TabR T B G H) {a : Addr} {o : HO} (e : H a = some o) (n : notTbl o) : TabR T (upd B a o) G H := ⟨t.tabs, fun p hp => by rw [upd_ne (t.ne e n hp)]; exact t.b p hp, t.g, upd_nt n t.bn, t.gn⟩
theorem R.own (r : R K T B G env σ H) {i : Nat} {a : Addr} (o : ownAt env σ i a) : G a = none ∧ B a = none ∧ ∃ u, H a = some u ∧ ((∃ xs, u = .lst xs) ∨ ∃ kvs, u = .dK kvs) := by
  obtain ⟨⟨s, e, k⟩, q⟩ := o
  have z := r.slot i s e
  cases s with
  | no => cases k
  | v d => cases k
  | o xs =>
    obtain ⟨_, a', vs, e1, e2, e3, e4, _⟩ := z
    rw [e1] at q; cases q
    exact ⟨e3, e4, _, e2, .inl ⟨_, rfl⟩⟩
  | q kvs =>
    obtain ⟨a', vs, e1, e2, e3, e4, _⟩ := z
    rw [e1] at q; cases q
    exact ⟨e3, e4, _, e2, .inr ⟨_, rfl⟩⟩
/-- fewer things kept apart -/
theorem R.weak {B1 : Hp} (r : R K T B1 G env σ H) (k : Same B B1) : R K T B G env σ H := ⟨r.tab.weak k, r.len, r.gh, k.trans r.bh, fun i s e => by
  have z := r.slot i s e
  cases s with
  | no => trivial
  | v d => exact z
  | o xs => obtain ⟨zl, a, vs, e1, e2, e3, e4, e5⟩ := z; exact ⟨zl, a, vs, e1, e2, e3, none_of_same k e4, e5⟩
  | q xs => obtain ⟨a, vs, e1, e2, e3, e4, e5⟩ := z; exact ⟨a, vs, e1, e2, e3, none_of_same k e4, e5⟩, r.apart⟩
/-- more things kept apart: what stands in H and is no name's own list -/
theorem R.more {B1 : Hp} (r : R K T B G env σ H) (k : Same B1 H) (n : ∀ i a, ownAt env σ i a → B1 a = none) (tb : TabR T B1 G H) : R K T B1 G env σ H := ⟨tb, r.len, r.gh, k, fun i s e => by
  have z := r.slot i s e
  cases s with
  | no => trivial
  | v d => exact z
  | o xs => obtain ⟨zl, a, vs, e1, e2, e3, e4, e5⟩ := z; exact ⟨zl, a, vs, e1, e2, e3, n i a ⟨⟨_, e, rfl⟩, e1⟩, e5⟩
  | q xs => obtain ⟨a, vs, e1, e2, e3, e4, e5⟩ := z; exact ⟨a, vs, e1, e2, e3, n i a ⟨⟨_, e, rfl⟩, e1⟩, e5⟩, r.apart⟩

/-- what an operation does: it lays new things, no more -/
structure GF (H G G' H' : Hp) : Prop where
  gg : Same G G'
  gh : Same G' H'
  hh : Same H H'
  new : ∀ a o, G' a = some o → G a = some o ∨ H a = none
  nt : ∀ a ps, G' a = some (.tbl ps) → G a = some (.tbl ps)
theorem GF.refl {G H : Hp} (e : Same G H) : GF H G G H := ⟨Same.refl G, e, Same.refl H, fun _ _ h => .inl h, fun _ _ h => h⟩
theorem GF.gx {H G G' H' B : Hp} (h : GF H G G' H') (k : Same B H) : GX B G G' := ⟨h.gg, fun a o q => (h.new a o q).imp id fun z => none_of_same k z⟩
theorem R.laid (r : R K T B G env σ H) (h : GF H G G' H') : R K T B G' env σ H' := by
  refine ⟨r.tab.laid h.hh h.new h.nt, r.len, h.gh, r.bh.trans h.hh, fun i s e => ?_, r.apart⟩
  have z := r.slot i s e
  cases s with
  | no => trivial
  | v d => obtain ⟨v, e1, e2⟩ := z; exact ⟨v, e1, Rp.mono h.gg _ _ e2⟩
  | o xs =>
    obtain ⟨zl, a, vs, e1, e2, e3, e4, e5⟩ := z
    refine ⟨zl, a, vs, e1, h.hh _ _ e2, ?_, e4, RpAll.mono h.gg _ _ e5⟩
    cases q : G' a with
    | none => rfl
    | some u =>
      rcases h.new a u q with z | z
      · rw [e3] at z; cases z
      · rw [e2] at z; cases z
  | q xs =>
    obtain ⟨a, vs, e1, e2, e3, e4, e5⟩ := z
    refine ⟨a, vs, e1, h.hh _ _ e2, ?_, e4, RpKv.mono h.gg _ _ e5⟩
    cases q : G' a with
    | none => rfl
    | some u =>
      rcases h.new a u q with z | z
      · rw [e3] at z; cases z
      · rw [e2] at z; cases z
end

/-! ### values of expressions -/
def RVR (K : PySem.W.Frag) (B G : Hp) (env : Env) (σ : L2.St) (H : Hp) (v : V) : RV → Prop
  | .f d => Rp K G v d
  | .n (.list xs) => xs.length ≤ lineMax ∧ ∃ a vs, v = .ref a ∧ H a = some (.lst vs) ∧ G a = none ∧ B a = none ∧ RpAll K G vs xs ∧ ∀ i, ¬ ownAt env σ i a
  | .n (.dict kvs) => ∃ a vs, v = .ref a ∧ H a = some (.dK vs) ∧ G a = none ∧ B a = none ∧ RpKv K G vs kvs ∧ ∀ i, ¬ ownAt env σ i a
  | .n _ => False
  | .b i => σ[i]? = some (some v)
section
variable {K : PySem.W.Frag} {T : List (Addr × Str)} {B G G' H H' : Hp} {env : Env} {σ : L2.St}
theorem RVR.pk {v : V} {r : RV} {d : D} (S : R K T B G env σ H) (h : RVR K B G env σ H v r) (e : peek r env = some d) : Pk K G H v d := by
  cases r with
  | f d' => cases e; exact .rp h
  | n d' =>
    cases e
    cases d with
    | list xs => obtain ⟨zl, a, vs, rfl, e2, _, _, e5, _⟩ := h; exact .lst e2 zl e5
    | dict xs => obtain ⟨a, vs, rfl, e2, _, _, e5, _⟩ := h; exact .dct e2 e5
    | none => exact h.elim
    | bool _ => exact h.elim
    | int _ => exact h.elim
    | str _ => exact h.elim
    | tuple _ => exact h.elim
  | b i =>
    have h : σ[i]? = some (some v) := h
    have e : (match env[i]? with | some (.v d) => some d | some (.o xs) => some (.list xs) | some (.q kvs) => some (.dict kvs) | _ => none) = some d := e
    cases q : env[i]? with
    | none => rw [q] at e; cases e
    | some s =>
      have z := S.slot i s q
      rw [q] at e
      cases s with
      | no => cases e
      | v d' => cases e; obtain ⟨v', e1, e2⟩ := z; rw [h] at e1; cases e1; exact .rp e2
      | o xs => cases e; obtain ⟨zl, a, vs, e1, e2, e3, e4, e5⟩ := z; rw [h] at e1; cases e1; exact .lst e2 zl e5
      | q xs => cases e; obtain ⟨a, vs, e1, e2, e3, e4, e5⟩ := z; rw [h] at e1; cases e1; exact .dct e2 e5
/-- a value that is held while something else is reckoned -/
theorem RVR.held {v : V} {r : RV} (S : R K T B G env σ H) (h : RVR K B G env σ H v r) : ∃ B1, Same B B1 ∧ R K T B1 G env σ H ∧
    ∀ env' G' H', GX B1 G G' → R K T B1 G' env' σ H' → RVR K B G' env' σ H' v r := by
  have keep : ∀ (a : Addr) (o : HO), v = .ref a → notTbl o → H a = some o → G a = none → B a = none → (∀ i, ¬ ownAt env σ i a) → ∃ B1, Same B B1 ∧ R K T B1 G env σ H ∧
      ∀ env' G' H', GX B1 G G' → R K T B1 G' env' σ H' → H' a = some o ∧ G' a = none ∧ ∀ i, ¬ ownAt env' σ i a := by
    intro a o _ nt e2 e3 e4 e6
    refine ⟨upd B a o, fun b u q => ?_, S.more (fun b u q => ?_) (fun i b q => ?_) (S.tab.updB e2 nt), fun env' G' H' g S' => ⟨S'.bh _ _ upd_same, ?_, fun i q => ?_⟩⟩
    · rw [upd_ne (ne_of_none q e4)]; exact q
    · by_cases z : b = a
      · subst z; rw [upd_same] at q; cases q; exact e2
      · rw [upd_ne z] at q; exact S.bh _ _ q
    · have z : b ≠ a := fun z => e6 i (z ▸ q)
      rw [upd_ne z]; exact (S.own q).2.1
    · cases z : G' a with
      | none => rfl
      | some u =>
        rcases g.new a u z with z | z
        · rw [e3] at z; cases z
        · rw [upd_same] at z; cases z
    · have z := (S'.own q).2.1
      rw [upd_same] at z; cases z
  cases r with
  | f d => exact ⟨B, Same.refl B, S, fun env' G' H' g _ => Rp.mono g.same _ _ h⟩
  | b i => exact ⟨B, Same.refl B, S, fun _ _ _ _ _ => h⟩
  | n d =>
    cases d with
    | list xs =>
      obtain ⟨zl, a, vs, ev, e2, e3, e4, e5, e6⟩ := h
      obtain ⟨B1, k1, k2, k3⟩ := keep a _ ev (fun _ z => by cases z) e2 e3 e4 e6
      exact ⟨B1, k1, k2, fun env' G' H' g S' => let ⟨z1, z2, z3⟩ := k3 env' G' H' g S'; ⟨zl, a, vs, ev, z1, z2, e4, RpAll.mono g.same _ _ e5, z3⟩⟩
    | dict xs =>
      obtain ⟨a, vs, ev, e2, e3, e4, e5, e6⟩ := h
      obtain ⟨B1, k1, k2, k3⟩ := keep a _ ev (fun _ z => by cases z) e2 e3 e4 e6
      exact ⟨B1, k1, k2, fun env' G' H' g S' => let ⟨z1, z2, z3⟩ := k3 env' G' H' g S'; ⟨a, vs, ev, z1, z2, e4, RpKv.mono g.same _ _ e5, z3⟩⟩
    | none => exact h.elim
    | bool _ => exact h.elim
    | int _ => exact h.elim
    | str _ => exact h.elim
    | tuple _ => exact h.elim
/-- a value is known for good -/
theorem RVR.frozen {v : V} {r : RV} {d : D} {env' : Env} (S : R K T B G env σ H) (h : RVR K B G env σ H v r) (e : frz r env = .ok d env') : ∃ G', GX B G G' ∧ R K T B G' env' σ H ∧ Rp K G' v d := by
  have grow : ∀ (a : Addr) (o : HO), H a = some o → G a = none → B a = none → Same (upd G a o) H ∧ GX B G (upd G a o) := by
    intro a o e2 e3 e4
    refine ⟨fun b u q => ?_, fun b u q => ?_, fun b u q => ?_⟩
    · by_cases z : b = a
      · subst z; rw [upd_same] at q; cases q; exact e2
      · rw [upd_ne z] at q; exact S.gh _ _ q
    · rw [upd_ne (ne_of_none q e3)]; exact q
    · by_cases z : b = a
      · subst z; exact .inr e4
      · rw [upd_ne z] at q; exact .inl q
  have slots : ∀ (a : Addr) (o : HO), notTbl o → H a = some o → G a = none → B a = none → (∀ i, ¬ ownAt env σ i a) → R K T B (upd G a o) env σ H := by
    intro a o nt e2 e3 e4 e6
    obtain ⟨g1, g2⟩ := grow a o e2 e3 e4
    refine ⟨S.tab.updG e2 nt, S.len, g1, S.bh, fun i s q => ?_, S.apart⟩
    have z := S.slot i s q
    cases s with
    | no => trivial
    | v d => obtain ⟨w, a1, a2⟩ := z; exact ⟨w, a1, Rp.mono g2.same _ _ a2⟩
    | o xs =>
      obtain ⟨zl, b, vs, a1, a2, a3, a4, a5⟩ := z
      have ne : b ≠ a := fun z => e6 i ⟨⟨_, q, rfl⟩, z ▸ a1⟩
      exact ⟨zl, b, vs, a1, a2, by rw [upd_ne ne]; exact a3, a4, RpAll.mono g2.same _ _ a5⟩
    | q xs =>
      obtain ⟨b, vs, a1, a2, a3, a4, a5⟩ := z
      have ne : b ≠ a := fun z => e6 i ⟨⟨_, q, rfl⟩, z ▸ a1⟩
      exact ⟨b, vs, a1, a2, by rw [upd_ne ne]; exact a3, a4, RpKv.mono g2.same _ _ a5⟩
  have moved : ∀ (i : Nat) (a : Addr) (o : HO) (dd : D), notTbl o → (∃ s, env[i]? = some s ∧ isOwn s = true) → σ[i]? = some (some (.ref a)) → H a = some o → G a = none → B a = none → (Rp K (upd G a o) (.ref a) dd) → R K T B (upd G a o) (env.set i (.v dd)) σ H := by
    intro i a o dd nt hs hσ e2 e3 e4 hrp
    obtain ⟨g1, g2⟩ := grow a o e2 e3 e4
    obtain ⟨s0, q0, o0⟩ := hs
    have hi : i < env.length := (List.getElem?_eq_some_iff.mp q0).1
    refine ⟨S.tab.updG e2 nt, by rw [List.length_set]; exact S.len, g1, S.bh, fun j s q => ?_, fun j k b oj ok => ?_⟩
    · by_cases hj : j = i
      · subst hj
        rw [List.getElem?_set_self hi] at q; cases q
        exact ⟨_, hσ, hrp⟩
      · rw [List.getElem?_set_ne (Ne.symm hj)] at q
        have z := S.slot j s q
        cases s with
        | no => trivial
        | v d => obtain ⟨w, a1, a2⟩ := z; exact ⟨w, a1, Rp.mono g2.same _ _ a2⟩
        | o xs =>
          obtain ⟨zl, b, vs, a1, a2, a3, a4, a5⟩ := z
          have ne : b ≠ a := fun z => hj (S.apart j i a ⟨⟨_, q, rfl⟩, z ▸ a1⟩ ⟨⟨s0, q0, o0⟩, hσ⟩)
          exact ⟨zl, b, vs, a1, a2, by rw [upd_ne ne]; exact a3, a4, RpAll.mono g2.same _ _ a5⟩
        | q xs =>
          obtain ⟨b, vs, a1, a2, a3, a4, a5⟩ := z
          have ne : b ≠ a := fun z => hj (S.apart j i a ⟨⟨_, q, rfl⟩, z ▸ a1⟩ ⟨⟨s0, q0, o0⟩, hσ⟩)
          exact ⟨b, vs, a1, a2, by rw [upd_ne ne]; exact a3, a4, RpKv.mono g2.same _ _ a5⟩
    · have up : ∀ m, ownAt (env.set i (.v dd)) σ m b → ownAt env σ m b := fun m ⟨⟨s, q, k⟩, z⟩ => by
        by_cases hm : m = i
        · subst hm
          rw [List.getElem?_set_self hi] at q; cases q; cases k
        · rw [List.getElem?_set_ne (Ne.symm hm)] at q
          exact ⟨⟨s, q, k⟩, z⟩
      exact S.apart j k b (up j oj) (up k ok)
  cases r with
  | f d' => cases e; exact ⟨G, GX.refl B G, S, h⟩
  | n d' =>
    cases e
    cases d with
    | list xs =>
      obtain ⟨zl, a, vs, rfl, e2, e3, e4, e5, e6⟩ := h
      obtain ⟨g1, g2⟩ := grow a _ e2 e3 e4
      exact ⟨upd G a (.lst vs), g2, slots a _ (fun _ z => by cases z) e2 e3 e4 e6, .lst (.inl (.inl upd_same)) zl (RpAll.mono g2.same _ _ e5)⟩
    | dict xs =>
      obtain ⟨a, vs, rfl, e2, e3, e4, e5, e6⟩ := h
      obtain ⟨g1, g2⟩ := grow a _ e2 e3 e4
      exact ⟨upd G a (.dK vs), g2, slots a _ (fun _ z => by cases z) e2 e3 e4 e6, .dct upd_same (RpKv.mono g2.same _ _ e5)⟩
    | none => exact h.elim
    | bool _ => exact h.elim
    | int _ => exact h.elim
    | str _ => exact h.elim
    | tuple _ => exact h.elim
  | b i =>
    have h : σ[i]? = some (some v) := h
    have e : (match env[i]? with | some (.v d) => Out.ok d env | some (.o xs) => .ok (.list xs) (env.set i (.v (.list xs))) | some (.q kvs) => .ok (.dict kvs) (env.set i (.v (.dict kvs))) | _ => .bad) = .ok d env' := e
    cases q : env[i]? with
    | none => rw [q] at e; cases e
    | some s =>
      have z := S.slot i s q
      rw [q] at e
      cases s with
      | no => cases e
      | v d' => cases e; obtain ⟨v', e1, e2⟩ := z; rw [h] at e1; cases e1; exact ⟨G, GX.refl B G, S, e2⟩
      | o xs =>
        cases e
        obtain ⟨zl, a, vs, e1, e2, e3, e4, e5⟩ := z
        rw [h] at e1; cases e1
        obtain ⟨g1, g2⟩ := grow a _ e2 e3 e4
        have hr : Rp K (upd G a (.lst vs)) (.ref a) (.list xs) := .lst (.inl (.inl upd_same)) zl (RpAll.mono g2.same _ _ e5)
        exact ⟨upd G a (.lst vs), g2, moved i a _ _ (fun _ z => by cases z) ⟨_, q, rfl⟩ h e2 e3 e4 hr, hr⟩
      | q xs =>
        cases e
        obtain ⟨a, vs, e1, e2, e3, e4, e5⟩ := z
        rw [h] at e1; cases e1
        obtain ⟨g1, g2⟩ := grow a _ e2 e3 e4
        have hr : Rp K (upd G a (.dK vs)) (.ref a) (.dict xs) := .dct upd_same (RpKv.mono g2.same _ _ e5)
        exact ⟨upd G a (.dK vs), g2, moved i a _ _ (fun _ z => by cases z) ⟨_, q, rfl⟩ h e2 e3 e4 hr, hr⟩
end
end Core
end

section
set_option Elab.async false
set_option linter.all false
set_option maxRecDepth 100000
set_option autoImplicit false
set_option maxHeartbeats 1000000
/-! Soundness 2: the operations. -/
namespace Core
open PySem PySem.Spec PyProof.Rows L2

theorem line_eq : lineMax = sizeLine := rfl
/-- the result of an operation at a value: a new list stands in H' alone -/
def Nw (K : PySem.W.Frag) (G' H H' : Hp) (v : V) : D → Prop
  | .list xs => xs.length ≤ lineMax ∧ ∃ a vs, v = .ref a ∧ H' a = some (.lst vs) ∧ H a = none ∧ G' a = none ∧ RpAll K G' vs xs
  | .dict kvs => ∃ a vs, v = .ref a ∧ H' a = some (.dK vs) ∧ H a = none ∧ G' a = none ∧ RpKv K G' vs kvs
  | d => Rp K G' v d
def S2 (K : PySem.W.Frag) (o : O2) : R2 := fun x y H Q => ∃ G d e r, Same G H ∧ Pk K G H x d ∧ Pk K G H y e ∧ do2 o d e = some r ∧ ∀ v G' H', GF H G G' H' → Nw K G' H H' v r → Q v H'
/-- an item: what stands there already -/
def S2i (K : PySem.W.Frag) : R2 := fun x y H Q => ∃ G d e r, Same G H ∧ Pk K G H x d ∧ Pk K G H y e ∧ do2 .idx d e = some r ∧ ∀ v, Rp K G v r → Q v H
def S1 (K : PySem.W.Frag) (o : O1) : List V → Hp → VK → Prop := fun xs H Q => ∃ x G d r, xs = [x] ∧ Same G H ∧ Pk K G H x d ∧ do1 o d = some r ∧ ∀ v G' H', GF H G G' H' → Nw K G' H H' v r → Q v H'

section
variable {X : Cx} {K : PySem.W.Frag} {G H : Hp}
theorem gf_new {p : Addr} {o : HO} (e : Same G H) (h : H p = none) : GF H G G (upd H p o) := ⟨Same.refl G, fun a u q => by
    have q' := e a u q
    rw [upd_ne (ne_of_none q' h)]; exact q', fun a u q => by rw [upd_ne (ne_of_none q h)]; exact q, fun _ _ q => .inl q, fun _ _ h => h⟩
theorem gf_tup {p : Addr} {o : HO} (e : Same G H) (h : H p = none) (n : notTbl o := by intro _ z; cases z) : GF H G (upd G p o) (upd H p o) := by
  have hg : G p = none := none_of_same e h
  refine ⟨fun a u q => ?_, fun a u q => ?_, fun a u q => ?_, fun a u q => ?_, fun a ps q => ?_⟩
  · rw [upd_ne (ne_of_none q hg)]; exact q
  · by_cases z : a = p
    · subst z; rw [upd_same] at q ⊢; exact q
    · rw [upd_ne z] at q ⊢; exact e _ _ q
  · rw [upd_ne (ne_of_none q h)]; exact q
  · by_cases z : a = p
    · subst z; exact .inr h
    · rw [upd_ne z] at q; exact .inl q
  · by_cases z : a = p
    · subst z; rw [upd_same] at q; exact absurd (Option.some.inj q) (n ps)
    · rw [upd_ne z] at q; exact q
theorem same_tup {p : Addr} {o : HO} (e : Same G H) (h : H p = none) (n : notTbl o := by intro _ z; cases z) : Same G (upd G p o) := (gf_tup (o := o) e h n).gg
theorem nw_list {p : Addr} {vs : List V} {ds : List D} (e : Same G H) (h : H p = none) (z : ds.length ≤ lineMax) (r : RpAll K G vs ds) : Nw K G H (upd H p (.lst vs)) (.ref p) (.list ds) :=
  ⟨z, p, vs, rfl, upd_same, h, none_of_same e h, r⟩
theorem nw_tup {p : Addr} {vs : List V} {ds : List D} (e : Same G H) (h : H p = none) (z : ds.length ≤ lineMax) (r : RpAll K G vs ds) : Nw K (upd G p (.tup vs)) H (upd H p (.tup vs)) (.ref p) (.tuple ds) :=
  .tup (SqT.of upd_same) z (RpAll.mono (same_tup e h) _ _ r)
/-- an operation on two data, from its rules on values -/
theorem op2_of {o : O2} {f : Value → Value → Sem Value} (h : ∀ (d e r : D) (x y : V) (G H : Hp) (Q : VK), Same G H → Pk X.K G H x d → Pk X.K G H y e → do2 o d e = some r → (∀ v G' H', GF H G G' H' → Nw X.K G' H H' v r → Q v H') →
    ∃ t : R2, OpR X f t ∧ t x y H Q) : OpR X f (S2 X.K o) := by
  intro pins s σ H x y v u Q I rx ry q
  obtain ⟨G, d, e, r, h1, h2, h3, h4, h5⟩ := q
  obtain ⟨t, ht, hq⟩ := h d e r x y G H Q h1 h2 h3 h4 h5
  exact ht pins s σ H x y v u Q I rx ry hq
theorem op1_of {o : O1} {f : Value} (h : ∀ (d r : D) (x : V) (G H : Hp) (Q : VK), Same G H → Pk X.K G H x d → do1 o d = some r → (∀ v G' H', GF H G G' H' → Nw X.K G' H H' v r → Q v H') →
    ∃ t : List V → Hp → VK → Prop, CallR X f t ∧ t [x] H Q) : CallR X f (S1 X.K o) := by
  intro pins s σ H xs us Q I rx q
  obtain ⟨x, G, d, r, rfl, h1, h2, h4, h5⟩ := q
  obtain ⟨t, ht, hq⟩ := h d r x G H Q h1 h2 h4 h5
  exact ht pins s σ H [x] us Q I rx hq
theorem fin_int {Q : VK} {i : Int} (e : Same G H) (q : ∀ v G' H', GF H G G' H' → Nw K G' H H' v (.int i) → Q v H') : Q (.int i) H := q _ G H (GF.refl e) (.int i)
theorem fin_bool {Q : VK} {b : Bool} (e : Same G H) (q : ∀ v G' H', GF H G G' H' → Nw K G' H H' v (.bool b) → Q v H') : Q (.bl b) H := q _ G H (GF.refl e) (.bl b)

theorem do2_add {d e r : D} (h : do2 .add d e = some r) : (∃ i j, d = .int i ∧ e = .int j ∧ r = .int (i + j)) ∨ (∃ xs ys, d = .list xs ∧ e = .list ys ∧ xs.length + ys.length ≤ lineMax ∧ r = .list (xs ++ ys)) ∨
    (∃ xs ys, d = .tuple xs ∧ e = .tuple ys ∧ xs.length + ys.length ≤ lineMax ∧ r = .tuple (xs ++ ys)) := by
  cases d <;> cases e <;> simp only [do2] at h <;> first | cases h | skip
  · exact .inl ⟨_, _, rfl, rfl, rfl⟩
  · split at h
    · rename_i z
      cases h
      exact .inr (.inl ⟨_, _, rfl, rfl, z, rfl⟩)
    · cases h
  · split at h
    · rename_i z
      cases h
      exact .inr (.inr ⟨_, _, rfl, rfl, z, rfl⟩)
    · cases h
/-- a list's object -/
theorem sq_lst {pins : List (Addr × Obj)} {σ : L2.St} {s : Shared} {a : Addr} {xs : List V} (I : Inv X pins σ H s) (h : SqL X.K H a xs) : xs.length ≤ sizeLine ∧ ∃ (its : List Value) (n : Nat) (sl : Array (Option Value)), Vals xs its ∧ xs.length = its.length ∧ s.heap.get? a = some { cls := .type "list", dict := none, data := .seq its.toArray n, slots := sl } := by
  obtain ⟨its, r, ⟨⟨c, dd, dt, sl⟩, n, ho, hc, hdn, hdt⟩, hz⟩ := I.list h
  simp only at hc hdn hdt
  subst hc hdn hdt
  exact ⟨hz, its, n, sl, r, r.length, ho⟩
def rCatL (K : PySem.W.Frag) : R2 := fun x y H Q => ∃ l b xs zs, x = .ref l ∧ y = .ref b ∧ SqL K H l xs ∧ SqL K H b zs ∧ xs.length + zs.length ≤ sizeLine ∧ ∀ p, H p = none → Q (.ref p) (upd H p (.lst (xs ++ zs)))
theorem op_catL : OpR X (binaryOp .Add) (rCatL X.K) := by
  intro pins s σ H x y v u Q I rx ry h
  obtain ⟨l, b, xs, zs, rfl, rfl, hH, hB, hz, q⟩ := h
  cases rx
  cases ry
  obtain ⟨z, its, n, sl, r, hl, e⟩ := sq_lst I hH
  obtain ⟨z2, its2, n2, sl2, r2, hl2, e2⟩ := sq_lst I hB
  refine concat_meets ⟨_, e, rfl⟩ ⟨_, e2, rfl⟩ noFill_list_add seq_list_add PySem.F.slot_list_add PySem.F.entry_list_add (PySem.F.args_list_add_2 _ _) (list_addW l b its.toArray its2.toArray n n2 none none sl sl2 (by rw [List.size_toArray, List.size_toArray]; omega)) ⟨e, e2, ?_⟩
  have ea : its.toArray ++ its2.toArray = (its ++ its2).toArray := by simp
  rw [ea]
  exact ⟨.ref _, _, I.lnew (t' := s.toks) (r.append r2) (by rw [List.length_append]; omega), rfl, q _ I.fresh⟩
theorem ok_add : OpR X (binaryOp .Add) (S2 X.K .add) := op2_of fun d e r x y G H Q hs hx hy hd q => by
  rcases do2_add hd with ⟨i, j, rfl, rfl, rfl⟩ | ⟨xs, ys, rfl, rfl, hz, rfl⟩ | ⟨xs, ys, rfl, rfl, hz, rfl⟩
  · exact ⟨_, op_add, i, j, hx.int, hy.int, fin_int hs q⟩
  · obtain ⟨a, vs, rfl, h1, h2, h3⟩ := hx.list hs
    obtain ⟨b, ws, rfl, h4, h5, h6⟩ := hy.list hs
    refine ⟨_, op_catL, a, b, vs, ws, rfl, rfl, h1, h4, by rw [h2.length, h5.length]; exact hz, fun p hp => q _ G _ (gf_new hs hp) ?_⟩
    exact nw_list hs hp (by rw [List.length_append]; exact hz) (h2.append h5)
  · obtain ⟨a, vs, rfl, h1, g1, h2, h3⟩ := hx.tuple hs
    obtain ⟨b, ws, rfl, h4, g4, h5, h6⟩ := hy.tuple hs
    refine ⟨_, op_catA, a, b, vs, ws, rfl, rfl, h1, h4, by rw [h2.length, h5.length]; exact hz, fun e => ?_, fun _ e => ?_, fun _ _ p hp => ?_⟩
    · subst e
      cases h2
      exact q _ G H (GF.refl hs) (.tup g4 h6 h5)
    · subst e
      cases h5
      exact q _ G H (GF.refl hs) (by rw [List.append_nil]; exact .tup g1 h3 h2)
    · exact q _ _ _ (gf_tup hs hp) (nw_tup hs hp (by rw [List.length_append]; exact hz) (h2.append h5))
theorem ok_sub : OpR X (binaryOp .Sub) (S2 X.K .sub) := op2_of fun d e r x y G H Q hs hx hy hd q => by
  cases d <;> cases e <;> simp only [do2] at hd <;> cases hd
  exact ⟨_, op_sub, _, _, hx.int, hy.int, fin_int hs q⟩
theorem ok_fdiv : OpR X (binaryOp .FloorDiv) (S2 X.K .fdiv) := op2_of fun d e r x y G H Q hs hx hy hd q => by
  cases d <;> cases e <;> simp only [do2] at hd <;> first | cases hd | skip
  split at hd
  · rename_i z
    cases hd
    rw [Bool.and_eq_true] at z
    exact ⟨_, op_fdiv, _, _, hx.int, hy.int, ⟨of_decide_eq_true z.1, of_decide_eq_true z.2⟩, fin_int hs q⟩
  · cases hd
theorem ok_mod : OpR X (binaryOp .Mod) (S2 X.K .mod) := op2_of fun d e r x y G H Q hs hx hy hd q => by
  cases d <;> cases e <;> simp only [do2] at hd <;> first | cases hd | skip
  split at hd
  · rename_i z
    cases hd
    exact ⟨_, op_mod, _, _, hx.int, hy.int, z, fin_int hs q⟩
  · cases hd
theorem small64_ok {i : Int} (h : small64 i = true) : -(2 ^ 64) < i ∧ i < 2 ^ 64 := by
  unfold small64 at h
  rw [Bool.and_eq_true] at h
  exact ⟨of_decide_eq_true h.1, of_decide_eq_true h.2⟩
theorem ok_pow : OpR X (binaryOp .Pow) (S2 X.K .pow) := op2_of fun d e r x y G H Q hs hx hy hd q => by
  cases d <;> cases e <;> simp only [do2] at hd <;> first | cases hd | skip
  split at hd
  · rename_i z
    cases hd
    simp only [Bool.and_eq_true, decide_eq_true_eq] at z
    obtain ⟨⟨z1, z2⟩, z3⟩ := z
    have z4 := small64_ok z3
    exact ⟨_, op_pow, _, _, hx.int, hy.int, ⟨z1, by omega, by omega⟩, fin_int hs q⟩
  · cases hd
end
end Core
end

section
set_option Elab.async false
set_option linter.all false
set_option maxRecDepth 100000
set_option autoImplicit false
set_option maxHeartbeats 1000000
/-! Soundness 3: more operations. -/
namespace Core
open PySem PySem.Spec PyProof.Rows L2
section
variable {X : L2.Cx} {K : PySem.W.Frag} {G H : Hp}

/-! ### products -/
def rRepL (K : PySem.W.Frag) : R2 := fun x y H Q => ∃ l k xs, x = .ref l ∧ y = .int k ∧ SqL K H l xs ∧ -(2 ^ 63) ≤ k ∧ k < 2 ^ 63 ∧ xs.length * k.toNat ≤ sizeLine ∧
  ∀ p, H p = none → Q (.ref p) (upd H p (.lst (List.replicate k.toNat xs).flatten))
theorem mulW (l : Addr) (items : Array Value) (n : Nat) (sl : Array (Option Value)) (x : Int) (u : Tok) (hc0 : ¬(!Builtin.List.listFitsIndex x) = true) (hc1 : ¬items.size * x.toNat > (2 ^ 63 - 1) / 8) (hc2 : ¬Builtin.List.listTooLong (items.size * x.toNat) = true) :
    Meets (Builtin.«list.__mul__» ⟨[.ref l, .int x u], []⟩) (fun _ R s => s.heap.get? l = some { cls := .type "list", dict := none, data := .seq items n, slots := sl } ∧ R (.ok (.ret (Value.ref s.heap.objs.size))) { s with heap := s.heap.push { cls := Value.type "list", data := Data.seq (List.foldl (fun x1 x2 => x1 ++ x2) #[] (List.replicate (if items.isEmpty = true then 0 else x.toNat) items)) }, toks := s.toks }) :=
  .of_wp fun prog w A R s h => by
    obtain ⟨hp, g, d, tk, os⟩ := s
    obtain ⟨hl, h⟩ := h
    have hsz := AutoListH.joined_fits hc2
    wp_walk
    refine wpAny_ite_false (decide_eq_false (Nat.not_lt.mpr hsz)) ?_
    wp_walk
    exact ⟨_, rfl, h⟩
theorem rmulW (a : Int) (t : Tok) (l : Addr) (items : Array Value) (n : Nat) (sl : Array (Option Value)) :
    Meets (Builtin.«int.__rmul__» ⟨[.int a t, .ref l], []⟩) (fun _ R s => s.heap.get? l = some { cls := .type "list", dict := none, data := .seq items n, slots := sl } ∧ R (.ok (.ret Value.notImplemented)) s) :=
  .of_wp fun prog w A R s h => by
    obtain ⟨hp, g, d, tk, os⟩ := s
    obtain ⟨hl, h⟩ := h
    wp_walk
    exact ⟨_, rfl, h⟩
theorem op_repL : OpR X (binaryOp .Mult) (rRepL X.K) := by
  intro pins s σ H x y v u Q I rx ry h
  obtain ⟨l, k, xs, rfl, rfl, hH, h1, h2, hz, q⟩ := h
  cases rx
  obtain ⟨t, rfl⟩ := ry
  obtain ⟨z, its, n, sl, r, hl, e⟩ := sq_lst I hH
  have hlen : its.toArray.size * k.toNat ≤ sizeLine := by rw [List.size_toArray, ← hl]; exact hz
  have hcap : ¬ its.toArray.size * k.toNat > (2 ^ 63 - 1) / 8 := by
    have : (sizeLine : Nat) ≤ (2 ^ 63 - 1) / 8 := by decide
    omega
  have hfit : ¬ (!Builtin.List.listFitsIndex k) = true := by
    rw [fitsIndex_both h1 h2]
    exact Bool.false_ne_true
  have hlong : ¬ Builtin.List.listTooLong (its.toArray.size * k.toNat) = true := by
    rw [notLongL hlen]
    exact Bool.false_ne_true
  have hnew : List.foldl (fun x1 x2 => x1 ++ x2) #[] (List.replicate (if its.toArray.isEmpty = true then 0 else k.toNat) its.toArray) = (List.replicate k.toNat its).flatten.toArray := by
    have f0 : ∀ m : Nat, List.foldl (fun x1 x2 => x1 ++ x2) #[] (List.replicate m its.toArray) = (List.replicate m its).flatten.toArray := fun m => by
      have := foldl_rep its m []
      rw [List.nil_append] at this
      exact this
    rw [f0]
    cases its with
    | nil => simp
    | cons a r' => rw [if_neg (by simp)]
  refine wpAny_binaryOp_repeat_ref (T := "list") (U := "int") (by decide) ⟨_, e, rfl⟩ (fun s' => typeIs_int s' k t) noFill_list_mul F.fills_int_mul F.slot_int_rmul repeat_list F.slot_int_index.lookup
    (call_meets F.slot_int_rmul (typeIs_int s k t) F.entry_int_rmul (F.args_int_rmul_2 _ _) (rmulW k t l its.toArray n sl)
      ⟨e, rfl, ⟨_, e, rfl⟩, call_meets F.slot_list_mul ⟨_, e, rfl⟩ F.entry_list_mul (F.args_list_mul_2 _ _) (mulW l its.toArray n sl k t hfit hcap hlong) ⟨e, ?_⟩⟩)
  rw [hnew]
  exact ⟨.ref _, _, I.lnew (t' := s.toks) (r.rep k.toNat) (by rw [PyProof.Rows.lm_len_rep_flat, Nat.mul_comm]; exact hz), rfl, q _ I.fresh⟩
theorem RpAll.rep {vs : List V} {ds : List D} (r : RpAll K G vs ds) : ∀ k : Nat, RpAll K G (List.replicate k vs).flatten (List.replicate k ds).flatten
  | 0 => .nil
  | k + 1 => by
    rw [List.replicate_succ, List.replicate_succ, List.flatten_cons, List.flatten_cons]
    exact r.append (RpAll.rep r k)
theorem flat_len {α : Type} (xs : List α) (k : Nat) : (List.replicate k xs).flatten.length = xs.length * k := by
  rw [PyProof.Rows.lm_len_rep_flat, Nat.mul_comm]
theorem ok_mul : OpR X (binaryOp .Mult) (S2 X.K .mul) := op2_of fun d e r x y G H Q hs hx hy hd q => by
  cases d <;> cases e <;> simp only [do2] at hd <;> first | cases hd | skip
  · split at hd
    · rename_i z
      cases hd
      rw [Bool.or_eq_true] at z
      exact ⟨_, op_mul, _, _, hx.int, hy.int, z.imp small64_ok small64_ok, fin_int hs q⟩
    · cases hd
  · split at hd
    · rename_i z
      cases hd
      simp only [Bool.and_eq_true, decide_eq_true_eq] at z
      obtain ⟨⟨z1, z2⟩, z3⟩ := z
      obtain ⟨a, vs, rfl, h1, h2, h3⟩ := hx.list hs
      refine ⟨_, op_repL, a, _, vs, rfl, hy.int, h1, by omega, by omega, by rw [h2.length]; exact z3, fun p hp => q _ G _ (gf_new hs hp) ?_⟩
      exact nw_list hs hp (by rw [flat_len]; exact z3) (h2.rep _)
    · cases hd
  · split at hd
    · rename_i z
      cases hd
      simp only [Bool.and_eq_true, decide_eq_true_eq, Bool.not_eq_true', List.isEmpty_eq_false_iff] at z
      obtain ⟨⟨⟨z0, z1⟩, z2⟩, z3⟩ := z
      obtain ⟨a, vs, rfl, h1, g1, h2, h3⟩ := hx.tuple hs
      have hl := h2.length
      refine ⟨_, op_repT, a, _, vs, rfl, hy.int, h1, fun e => z0 (by subst e; cases h2; rfl), z1, z2, by omega, fun p hp => q _ _ _ (gf_tup hs hp) ?_⟩
      refine nw_tup hs hp ?_ (h2.rep _)
      rw [flat_len]
      rename_i xs k
      have : xs.length * k.toNat ≤ 1000 * 1000 := Nat.mul_le_mul z3 (by omega)
      have : (1000 * 1000 : Nat) ≤ lineMax := by decide
      omega
    · cases hd

/-! ### comparisons -/
theorem pyEq_some {d e : D} {b : Bool} (h : pyEq d e = some b) : okD d = true ∧ okD e = true ∧ b = PyData.eqv d e := by
  unfold pyEq at h
  split at h
  · rename_i z
    rw [Bool.and_eq_true] at z
    cases h
    exact ⟨z.1, z.2, rfl⟩
  · cases h
theorem ok_eq (hu : X.A.units + 64 < cLine) : OpR X (compareOp .Eq) (S2 X.K .eq) := op2_of fun d e r x y G H Q hs hx hy hd q => by
  obtain ⟨b, hb, rfl⟩ := Option.map_eq_some_iff.mp hd
  obtain ⟨o1, o2, rfl⟩ := pyEq_some hb
  obtain ⟨p1, s1⟩ := hx.dp hs o1
  obtain ⟨p2, s2⟩ := hy.dp hs o2
  exact ⟨_, op_eqD hu, d, e, p1, p2, s1, s2, fin_bool hs q⟩
theorem ok_ne (hu : X.A.units + 64 < cLine) : OpR X (compareOp .NotEq) (S2 X.K .ne) := op2_of fun d e r x y G H Q hs hx hy hd q => by
  obtain ⟨b, hb, rfl⟩ := Option.map_eq_some_iff.mp hd
  obtain ⟨o1, o2, rfl⟩ := pyEq_some hb
  obtain ⟨p1, s1⟩ := hx.dp hs o1
  obtain ⟨p2, s2⟩ := hy.dp hs o2
  exact ⟨_, op_neD hu, d, e, p1, p2, s1, s2, fin_bool hs q⟩
theorem pyLt_some {d e : D} {b : Bool} (h : pyLt d e = some b) : (∃ i j, d = .int i ∧ e = .int j ∧ b = decide (i < j)) ∨ (∃ i j, d = .str i ∧ e = .str j ∧ b = decide (i.cps.toList < j.cps.toList)) ∨
    (∃ xs ys, d = .tuple xs ∧ e = .tuple ys ∧ PySem.W.alikeAll xs ys = true ∧ okD (.tuple xs) = true ∧ okD (.tuple ys) = true ∧ b = PySem.W.rowLt xs ys) := by
  unfold pyLt at h
  split at h
  · cases h; exact .inl ⟨_, _, rfl, rfl, rfl⟩
  · cases h; exact .inr (.inl ⟨_, _, rfl, rfl, rfl⟩)
  · split at h
    · rename_i z
      simp only [Bool.and_eq_true] at z
      cases h
      exact .inr (.inr ⟨_, _, rfl, rfl, z.1.1, z.1.2, z.2, rfl⟩)
    · cases h
  · cases h
def rLtD (K : PySem.W.Frag) : R2 := fun x y H Q => ∃ xs ys, Dp K H x (.tuple xs) ∧ Dp K H y (.tuple ys) ∧ SeqAt.shaped (.tuple xs) = true ∧ SeqAt.shaped (.tuple ys) = true ∧ PySem.W.alikeAll xs ys = true ∧ Q (.bl (PySem.W.rowLt xs ys)) H
theorem op_ltD (hu : X.A.units + 64 < cLine) : OpR X (compareOp .Lt) (rLtD X.K) := by
  intro pins s σ H x y v u Q I rx ry h
  obtain ⟨xs, ys, hd, he, sd, se, ha, q⟩ := h
  obtain ⟨as, r1⟩ := Dp.reads I _ x v hd rx
  obtain ⟨bs, r2⟩ := Dp.reads I _ y u he ry
  have room := SeqAt.room_of_shaped (db := .tuple ys) sd hu
  have z := PySem.W.rcLt_alike (.tuple xs) (.tuple ys) X.A s v u as bs r1 r2 ha (by intro z; cases z) room
  exact z X.prog X.w X.xe (EP X pins σ Q) ⟨.bl _, H, I, rfl, by rw [PySem.W.dataLt_tuple]; exact q⟩
theorem op_gtD (hu : X.A.units + 64 < cLine) : OpR X (compareOp .Gt) (fun x y H Q => ∃ i j, x = .int i ∧ y = .int j ∧ Q (.bl (decide (j < i))) H) := by
  intro pins s σ H x y v u Q I rx ry h
  obtain ⟨i, j, rfl, rfl, q⟩ := h
  exact op_gt pins s σ H _ _ v u Q I rx ry ⟨i, j, rfl, rfl, q⟩
theorem ok_lt (hu : X.A.units + 64 < cLine) : OpR X (compareOp .Lt) (S2 X.K .lt) := op2_of fun d e r x y G H Q hs hx hy hd q => by
  obtain ⟨b, hb, rfl⟩ := Option.map_eq_some_iff.mp hd
  rcases pyLt_some hb with ⟨i, j, rfl, rfl, rfl⟩ | ⟨i, j, rfl, rfl, rfl⟩ | ⟨xs, ys, rfl, rfl, ha, o1, o2, rfl⟩
  · exact ⟨_, op_lt, i, j, hx.int, hy.int, fin_bool hs q⟩
  · exact ⟨_, op_lt_str, i, j, hx.str.1, hy.str.1, fin_bool hs q⟩
  · obtain ⟨p1, s1⟩ := hx.dp hs o1
    obtain ⟨p2, s2⟩ := hy.dp hs o2
    exact ⟨_, op_ltD hu, xs, ys, p1, p2, s1, s2, ha, fin_bool hs q⟩
theorem ok_gt : OpR X (compareOp .Gt) (S2 X.K .gt) := op2_of fun d e r x y G H Q hs hx hy hd q => by
  cases d <;> cases e <;> simp only [do2] at hd <;> cases hd
  exact ⟨_, op_gt, _, _, hx.int, hy.int, fin_bool hs q⟩
theorem ok_le : OpR X (compareOp .LtE) (S2 X.K .le) := op2_of fun d e r x y G H Q hs hx hy hd q => by
  cases d <;> cases e <;> simp only [do2] at hd <;> cases hd
  exact ⟨_, op_le, _, _, hx.int, hy.int, fin_bool hs q⟩
theorem ok_ge : OpR X (compareOp .GtE) (S2 X.K .ge) := op2_of fun d e r x y G H Q hs hx hy hd q => by
  cases d <;> cases e <;> simp only [do2] at hd <;> cases hd
  exact ⟨_, op_ge, _, _, hx.int, hy.int, fin_bool hs q⟩

/-! ### dicts -/
theorem keyD_eqv (k k' : Key) : PyData.eqv (keyD k') (keyD k) = decide (k' = k) := by
  cases k with
  | inl i =>
    cases k' with
    | inl j => show (j == i) = _; rw [key_ll]
    | inr y => show false = _; rw [key_rl]
  | inr x =>
    cases k' with
    | inl j => show false = _; rw [key_lr]
    | inr y =>
      show (y == x) = _
      rw [key_rr]
      exact Bool.beq_eq_decide_eq y x
theorem keyOk_of {d : D} {x : V} (h : keyOk d = true) (hx : Pk K G H x d) : ∃ k : Key, x = kV k ∧ d = keyD k := by
  cases d with
  | int i => exact ⟨.inl i, hx.int, rfl⟩
  | str s => exact ⟨.inr s, hx.str.1, rfl⟩
  | none => cases h
  | bool _ => cases h
  | list _ => cases h
  | tuple _ => cases h
  | dict _ => cases h
theorem look_rel : ∀ {kvs : List (Key × V)} {ds : List (D × D)} (k : Key), RpKv K G kvs ds → match lookD (keyD k) ds, valV kvs k with
    | some d, some v => Rp K G v d
    | none, none => True
    | _, _ => False
  | _, _, k, .nil => by simp [lookD, valV]
  | _, _, k, @RpKv.cons _ _ k' v kvs d ds hk hv r => by
    have ih := look_rel k r
    by_cases e : k' = k
    · subst e
      have e1 : lookD (keyD k') ((keyD k', d) :: ds) = some d := by
        simp only [lookD]
        rw [keyD_eqv, decide_eq_true rfl]
        rfl
      have e2 : valV ((k', v) :: kvs) k' = some v := valV_pos rfl
      rw [e1, e2]
      exact hv
    · have e1 : lookD (keyD k) ((keyD k', d) :: ds) = lookD (keyD k) ds := by
        simp only [lookD]
        rw [keyD_eqv, decide_eq_false e]
        rfl
      have e2 : valV ((k', v) :: kvs) k = valV kvs k := valV_neg e
      rw [e1, e2]
      exact ih
theorem look_some {kvs : List (Key × V)} {ds : List (D × D)} {k : Key} {d : D} (r : RpKv K G kvs ds) (h : lookD (keyD k) ds = some d) : ∃ v, valV kvs k = some v ∧ Rp K G v d := by
  have z := look_rel k r
  rw [h] at z
  cases e : valV kvs k with
  | none => rw [e] at z; exact z.elim
  | some v => rw [e] at z; exact ⟨v, rfl, z⟩
theorem look_isSome {kvs : List (Key × V)} {ds : List (D × D)} {k : Key} (r : RpKv K G kvs ds) : (valV kvs k).isSome = (lookD (keyD k) ds).isSome := by
  have z := look_rel k r
  cases e : valV kvs k with
  | none =>
    cases e2 : lookD (keyD k) ds with
    | none => rfl
    | some d => rw [e, e2] at z; exact z.elim
  | some v =>
    cases e2 : lookD (keyD k) ds with
    | none => rw [e, e2] at z; exact z.elim
    | some d => rfl

/-! ### in, not in -/
def rInT (K : PySem.W.Frag) : R2 := fun x y H Q => ∃ d ds, Dp K H x d ∧ Dp K H y (.tuple ds) ∧ SeqAt.shaped d = true ∧ SeqAt.shaped (.tuple ds) = true ∧ Q (.bl (ds.any fun z => PyData.eqv z d)) H
def rNotInT (K : PySem.W.Frag) : R2 := fun x y H Q => ∃ d ds, Dp K H x d ∧ Dp K H y (.tuple ds) ∧ SeqAt.shaped d = true ∧ SeqAt.shaped (.tuple ds) = true ∧ Q (.bl (!ds.any fun z => PyData.eqv z d)) H
theorem op_inT (hu : X.A.units + 65 < cLine) : OpR X (compareOp .In) (rInT X.K) := by
  intro pins s σ H x y v u Q I rx ry h
  obtain ⟨d, ds, hd, he, sd, se, q⟩ := h
  obtain ⟨as, r1⟩ := Dp.reads I d x v hd rx
  obtain ⟨bs, r2⟩ := Dp.reads I (.tuple ds) y u he ry
  exact SeqAt.in_tuple_reads r2 r1 (SeqAt.canLay_of_shaped se) (SeqAt.canLay_of_shaped sd) (room_in_shaped sd hu) ⟨.bl _, H, I, rfl, q⟩
theorem op_notInT (hu : X.A.units + 65 < cLine) : OpR X (compareOp .NotIn) (rNotInT X.K) := by
  intro pins s σ H x y v u Q I rx ry h
  obtain ⟨d, ds, hd, he, sd, se, q⟩ := h
  obtain ⟨as, r1⟩ := Dp.reads I d x v hd rx
  obtain ⟨bs, r2⟩ := Dp.reads I (.tuple ds) y u he ry
  exact SeqAt.notIn_tuple_reads r2 r1 (SeqAt.canLay_of_shaped se) (SeqAt.canLay_of_shaped sd) (room_in_shaped sd hu) ⟨.bl _, H, I, rfl, q⟩
theorem op_inDict (hu : X.A.units + 65 < cLine) : OpR X (compareOp .In) (fun x y H Q => ∃ a o, y = .ref a ∧ DGet H a x o ∧ Q (.bl o.isSome) H) := by
  intro pins s σ H x y v u Q I rx ry h
  obtain ⟨a, o, rfl, g, q⟩ := h
  cases ry
  exact d_in (by omega) I g rx fun s' I' => ⟨.bl _, H, I', rfl, q⟩
theorem op_notInDict (hu : X.A.units + 65 < cLine) : OpR X (compareOp .NotIn) (fun x y H Q => ∃ a o, y = .ref a ∧ DGet H a x o ∧ Q (.bl (!o.isSome)) H) := by
  intro pins s σ H x y v u Q I rx ry h
  obtain ⟨a, o, rfl, g, q⟩ := h
  cases ry
  exact d_notIn (by omega) I g rx fun s' I' => ⟨.bl _, H, I', rfl, q⟩
theorem ok_in (hu : X.A.units + 65 < cLine) : OpR X (compareOp .In) (S2 X.K .isin) := op2_of fun d e r x y G H Q hs hx hy hd q => by
  cases e <;> simp only [do2] at hd <;> first | cases hd | skip
  · split at hd
    · rename_i z
      simp only [Bool.and_eq_true] at z
      cases hd
      obtain ⟨p1, s1⟩ := hx.dp hs z.1
      obtain ⟨p2, s2⟩ := hy.dp hs z.2
      exact ⟨_, op_inD hu, d, _, p1, p2, s1, s2, fin_bool hs q⟩
    · cases hd
  · split at hd
    · rename_i z
      simp only [Bool.and_eq_true] at z
      cases hd
      obtain ⟨p1, s1⟩ := hx.dp hs z.1
      obtain ⟨p2, s2⟩ := hy.dp hs z.2
      exact ⟨_, op_inT hu, d, _, p1, p2, s1, s2, fin_bool hs q⟩
    · cases hd
  · split at hd
    · rename_i z
      cases hd
      obtain ⟨k, rfl, rfl⟩ := keyOk_of z hx
      obtain ⟨a, kvs, rfl, h1, h2⟩ := hy.dict hs
      refine ⟨_, op_inDict hu, a, _, rfl, DGet.k h1, ?_⟩
      rw [look_isSome h2]
      exact fin_bool hs q
    · cases hd
theorem ok_notin (hu : X.A.units + 65 < cLine) : OpR X (compareOp .NotIn) (S2 X.K .notin) := op2_of fun d e r x y G H Q hs hx hy hd q => by
  cases e <;> simp only [do2] at hd <;> first | cases hd | skip
  · split at hd
    · rename_i z
      simp only [Bool.and_eq_true] at z
      cases hd
      obtain ⟨p1, s1⟩ := hx.dp hs z.1
      obtain ⟨p2, s2⟩ := hy.dp hs z.2
      exact ⟨_, op_notInD hu, d, _, p1, p2, s1, s2, fin_bool hs q⟩
    · cases hd
  · split at hd
    · rename_i z
      simp only [Bool.and_eq_true] at z
      cases hd
      obtain ⟨p1, s1⟩ := hx.dp hs z.1
      obtain ⟨p2, s2⟩ := hy.dp hs z.2
      exact ⟨_, op_notInT hu, d, _, p1, p2, s1, s2, fin_bool hs q⟩
    · cases hd
  · split at hd
    · rename_i z
      cases hd
      obtain ⟨k, rfl, rfl⟩ := keyOk_of z hx
      obtain ⟨a, kvs, rfl, h1, h2⟩ := hy.dict hs
      refine ⟨_, op_notInDict hu, a, _, rfl, DGet.k h1, ?_⟩
      rw [look_isSome h2]
      exact fin_bool hs q
    · cases hd

/-! ### items -/
theorem ix_dict (hu : X.A.units + 65 < cLine) : IxR X (fun x y H Q => ∃ a v, x = .ref a ∧ DGet H a y (some v) ∧ Q v H) := by
  intro value slice pins s σ H x y v u Q I rx ry h hs
  obtain ⟨a, z, rfl, g, q⟩ := h
  cases rx
  have ti := dict_typeIs I g
  unfold subscriptTail
  refine wpAny_bind ?_
  rw [getitemInPython_of_ne ti.not_modules]
  refine wpAny_bind (wpAny_specialOf ti PySem.F.slot_dict_getitem.lookup ?_)
  have fin : wpAny (model X.prog X.w) X.A (subscripted slice false (.ref a) u) (fun r s₃ => wpAny (model X.prog X.w) X.A (letTemporaryGo value (.ref a) r >>= fun _ => pure r) (EP X pins σ Q) X.xe s₃) X.xe s := by
    rw [hs]
    refine wpAny_operating (d_getItem (by omega) I g ry fun w' s' I' r' => wpAny_bind (wpAny_letTemporaryGo (wpAny_pure ⟨z, H, I', r', q⟩)))
  first
    | exact wpAny_pure (wpAny_bind fin)
    | exact wpAny_bind fin
theorem atI_eq {α : Type} (xs : List α) (i : Int) : Core.atI xs i = L2.atI xs i := rfl
theorem RpAll.atI {vs : List V} {ds : List D} {i : Int} {d : D} (r : RpAll K G vs ds) (h : Core.atI ds i = some d) : ∃ v, L2.atI vs i = some v ∧ Rp K G v d := by
  unfold Core.atI at h
  unfold L2.atI
  rw [← r.length] at h
  cases e : Core.ixN vs.length i with
  | none => rw [e] at h; cases h
  | some j =>
    rw [e] at h
    have e' : L2.ixN vs.length i = some j := e
    rw [e']
    exact r.get h
theorem ok_idx (hu : X.A.units + 65 < cLine) : IxR X (S2i X.K) := by
  intro value slice pins s σ H x y v u Q I rx ry h hs
  obtain ⟨G, d, e, r, hG, hx, hy, hd, q⟩ := h
  cases d <;> simp only [do2] at hd <;> first | cases hd | skip
  · cases e <;> first | cases hd | skip
    obtain ⟨a, vs, rfl, h1, h2, _⟩ := hx.list hG
    obtain ⟨z, e1, e2⟩ := h2.atI hd
    exact ix_list value slice pins s σ H _ y v u Q I rx ry ⟨a, vs, _, z, rfl, hy.int, h1, e1, q z e2⟩ hs
  · cases e <;> first | cases hd | skip
    obtain ⟨a, vs, rfl, h1, _, h2, _⟩ := hx.tuple hG
    obtain ⟨z, e1, e2⟩ := h2.atI hd
    exact ix_tup value slice pins s σ H _ y v u Q I rx ry ⟨a, vs, _, z, rfl, hy.int, h1, e1, q z e2⟩ hs
  · split at hd
    · rename_i z
      obtain ⟨k, rfl, rfl⟩ := keyOk_of z hy
      obtain ⟨a, kvs, rfl, h1, h2⟩ := hx.dict hG
      obtain ⟨v', e1, e2⟩ := look_some h2 hd
      exact ix_dict hu value slice pins s σ H _ _ v u Q I rx ry ⟨a, v', rfl, by rw [← e1]; exact DGet.k h1, q v' e2⟩ hs
    · cases hd
end
end Core
end

section
set_option Elab.async false
set_option linter.all false
set_option maxRecDepth 100000
set_option autoImplicit false
set_option maxHeartbeats 1000000
/-! Soundness 4: sorting. -/
namespace Core
open PySem PySem.Spec PyProof.Rows L2
section
variable {X : L2.Cx} {K : PySem.W.Frag} {G H : Hp} {pins : List (Addr × Obj)} {σ : L2.St} {s : Shared}

theorem isTupC_of {d : D} (h : isTupC d = true) : ∃ x r, d = .tuple (x :: r) := by
  cases d with
  | tuple xs =>
    cases xs with
    | nil => cases h
    | cons x r => exact ⟨x, r, rfl⟩
  | none => cases h
  | bool _ => cases h
  | int _ => cases h
  | str _ => cases h
  | list _ => cases h
  | dict _ => cases h
theorem isAtom_of {d : D} (h : isAtom d = true) : d ≠ .none ∧ ∀ xs, d ≠ .tuple xs := by
  cases d with
  | tuple xs => cases h
  | none => cases h
  | bool _ => exact ⟨(fun z => nomatch z), fun _ z => nomatch z⟩
  | int _ => exact ⟨(fun z => nomatch z), fun _ z => nomatch z⟩
  | str _ => exact ⟨(fun z => nomatch z), fun _ z => nomatch z⟩
  | list _ => exact ⟨(fun z => nomatch z), fun _ z => nomatch z⟩
  | dict _ => exact ⟨(fun z => nomatch z), fun _ z => nomatch z⟩
theorem sortable_of {ds : List D} (h : sortable ds = true) : PySem.W.AllAlike ds ∧ PySem.W.Sortable ds ∧ ∀ d ∈ ds, okD d = true := by
  unfold sortable at h
  simp only [Bool.and_eq_true, Bool.or_eq_true, List.all_eq_true] at h
  obtain ⟨⟨h1, h2⟩, h3⟩ := h
  refine ⟨fun d hd d' hd' => ?_, ?_, h3⟩
  · unfold allAlike at h1
    rw [List.all_eq_true] at h1
    have := h1 d hd
    rw [List.all_eq_true] at this
    exact this d' hd'
  · rcases h2 with h2 | h2
    · exact .inl fun d hd => isTupC_of (h2 d hd)
    · exact .inr fun d hd => isAtom_of (h2 d hd)
theorem sortD_map (ds : List (V × D)) : (ds.mergeSort (PySem.W.dataLe false Prod.snd)).map Prod.snd = sortD (ds.map Prod.snd) := by
  unfold sortD
  exact List.map_mergeSort fun a _ b _ => rfl

mutual
theorem reads_lt {h : Heap} : ∀ (d : D) (v : Value) (as : List Addr), PyData.canLay0 d = true → Reads h v d as → ∀ a ∈ as, a < h.objs.size
  | .none, _, _, _, r => by cases r; intro a h; cases h
  | .bool _, _, _, _, r => by cases r; intro a h; cases h
  | .int _, _, _, _, r => by cases r; intro a h; cases h
  | .str _, _, _, _, r => by cases r; intro a h; cases h
  | .list xs, _, _, hl, r => by
    cases r with
    | list h1 h2 h3 h4 =>
      intro a ha
      rcases List.mem_cons.mp ha with rfl | ha
      · exact Heap.lt_size h1
      · exact readsAll_lt xs _ _ hl h4 a ha
  | .tuple xs, _, _, hl, r => by
    cases r with
    | tuple h1 h2 h3 h4 => exact readsAll_lt xs _ _ hl h4
  | .dict _, _, _, hl, _ => nomatch hl
theorem readsAll_lt {h : Heap} : ∀ (ds : List D) (vs : List Value) (as : List Addr), PyData.canLayAll0 ds = true → ReadsAll h vs ds as → ∀ a ∈ as, a < h.objs.size
  | [], _, _, _, r => by cases r; intro a h; cases h
  | d :: ds, _, _, hl, r => by
    have hl' : d.canLay0 = true ∧ PyData.canLayAll0 ds = true := by simpa [PyData.canLayAll0] using hl
    cases r with
    | cons h1 h2 =>
      intro a ha
      rcases List.mem_append.mp ha with ha | ha
      · exact reads_lt d _ _ hl'.1 h1 a ha
      · exact readsAll_lt ds _ _ hl'.2 h2 a ha
end
/-- the items of a list, with what they stand for -/
theorem each_pairs : ∀ {vs : List Value} {xs : List V} {ds : List D}, Vals xs vs → RpAll K G xs ds → PySem.W.EachIs (fun v p => RelV p.1 v ∧ Rp K G p.1 p.2) vs (xs.zip ds)
  | _, _, _, .nil, .nil => .nil
  | _, _, _, .cons r t, .cons r' t' => .cons ⟨r, r'⟩ (each_pairs t t')
theorem RpAll.mem : ∀ {xs : List V} {ds : List D}, RpAll K G xs ds → ∀ p ∈ xs.zip ds, p.2 ∈ ds ∧ Rp K G p.1 p.2
  | _, _, .nil, p, h => by cases h
  | _, _, .cons r t, p, h => by
    rw [List.zip_cons_cons] at h
    rcases List.mem_cons.mp h with rfl | h
    · exact ⟨List.mem_cons_self, r⟩
    · obtain ⟨a, b⟩ := RpAll.mem t p h
      exact ⟨List.mem_cons_of_mem _ a, b⟩
theorem zip_snd {xs : List V} {ds : List D} (r : RpAll K G xs ds) : (xs.zip ds).map Prod.snd = ds := List.map_snd_zip (by rw [r.length]; exact Nat.le_refl _)
/-- values of what was sorted, and what they stand for -/
theorem each_split : ∀ {out : List Value} {ps : List (V × D)}, PySem.W.EachIs (fun v p => RelV p.1 v ∧ Rp K G p.1 p.2) out ps → Vals (ps.map Prod.fst) out ∧ RpAll K G (ps.map Prod.fst) (ps.map Prod.snd)
  | _, _, .nil => ⟨.nil, .nil⟩
  | _, _, .cons h t => let ⟨a, b⟩ := each_split t; ⟨.cons h.1 a, .cons h.2 b⟩
theorem each_reads (I : Inv X pins σ H s) (hs : Same G H) {vs : List Value} {ps : List (V × D)} (e : PySem.W.EachIs (fun v p => RelV p.1 v ∧ Rp X.K G p.1 p.2) vs ps) (ok : ∀ p ∈ ps, okD p.2 = true) : PySem.W.EachIs (fun v (b : V × D) => ∃ as, Reads s.heap v b.2 as) vs ps := by
  induction e with
  | nil => exact .nil
  | @cons v p vs ps h _ ih =>
    refine .cons ?_ (ih fun q hq => ok q (List.mem_cons_of_mem _ hq))
    obtain ⟨d1, _⟩ := (Pk.rp h.2).dp hs (ok p List.mem_cons_self)
    exact Dp.reads I p.2 p.1 v d1 h.1
theorem each_readsBut {l : Addr} (I : Inv X pins σ H s) (hs : Same G H) {vs : List Value} {ps : List (V × D)} (e : PySem.W.EachIs (fun v p => RelV p.1 v ∧ Rp X.K G p.1 p.2) vs ps) (ok : ∀ p ∈ ps, okD p.2 = true) (hl : s.heap.objs.size ≤ l) (h' : Heap) (k : ∀ b o, s.heap.get? b = some o → h'.get? b = some o) :
    PySem.W.EachIs (fun v (b : V × D) => ∃ as, Reads h' v b.2 as ∧ l ∉ as) vs ps := by
  induction e with
  | nil => exact .nil
  | @cons v p vs ps h _ ih =>
    refine .cons ?_ (ih fun q hq => ok q (List.mem_cons_of_mem _ hq))
    obtain ⟨d1, sh⟩ := (Pk.rp h.2).dp hs (ok p List.mem_cons_self)
    obtain ⟨as, r⟩ := Dp.reads I p.2 p.1 v d1 h.1
    refine ⟨as, PyProof.Rows.Reads.keeps k r, fun hm => ?_⟩
    exact absurd (Nat.lt_of_lt_of_le (reads_lt _ _ _ (SeqAt.canLay_of_shaped sh) r l hm) hl) (Nat.lt_irrefl _)
/-- the order's premises -/
theorem sort_prem {xs : List V} {ds : List D} (r : RpAll K G xs ds) (h : sortable ds = true) (hu : X.A.units + 80 < cLine) : PySem.W.AllAlike ((xs.zip ds).map Prod.snd) ∧ PySem.W.Sortable ((xs.zip ds).map Prod.snd) ∧ (∀ p ∈ xs.zip ds, okD p.2 = true) ∧
    (∀ p ∈ xs.zip ds, X.A.units + 2 + p.2.depth < cLine) ∧ ∀ p ∈ xs.zip ds, X.A.units + 1 + 1 + p.2.depth < cLine := by
  obtain ⟨h1, h2, h3⟩ := sortable_of h
  have ok : ∀ p ∈ xs.zip ds, okD p.2 = true := fun p hp => h3 _ (r.mem p hp).1
  have de : ∀ p ∈ xs.zip ds, p.2.depth ≤ 64 := fun p hp => by
    have a : dep p.2 ≤ 64 := of_decide_eq_true (ok p hp)
    exact Nat.le_trans (dep_ok _ a) a
  rw [zip_snd r]
  exact ⟨h1, h2, ok, fun p hp => by have := de p hp; omega, fun p hp => by have := de p hp; omega⟩
theorem zip_len {xs : List V} {ds : List D} (r : RpAll K G xs ds) : (xs.zip ds).length = ds.length := by
  rw [List.length_zip, r.length, Nat.min_self]
/-- sorted(xs) of a list -/
def rSortL (K : PySem.W.Frag) : List V → Hp → VK → Prop := fun us H Q => ∃ a xs ds G, us = [.ref a] ∧ Same G H ∧ SqL K H a xs ∧ RpAll K G xs ds ∧ sortable ds = true ∧ ∀ ys p, RpAll K G ys (sortD ds) → H p = none → Q (.ref p) (upd H p (.lst ys))
theorem call_sortL (hu : X.A.units + 80 < cLine) : CallR X (.builtin "sorted") (rSortL X.K) := by
  intro pins s σ H us vs Q I r q
  obtain ⟨a, xs, ds, G, rfl, hs, hH, rp, so, q⟩ := q
  obtain ⟨u, rfl, ru⟩ := vals1 r
  cases ru
  obtain ⟨z, its, n, sl, rv, hl, e⟩ := sq_lst I hH
  obtain ⟨p1, p2, p3, p4, _⟩ := sort_prem rp so hu
  have er := each_pairs rv rp
  refine PySem.W.sorted_data (vs := its) (bs := xs.zip ds) (enc := Prod.snd) (R := fun v p => RelV p.1 v ∧ Rp X.K G p.1 p.2) ⟨_, e, rfl, n, rfl⟩ er (each_reads I hs er p3) p1 p2 (by rw [zip_len rp, ← rp.length]; exact z) p4 fun out ho eo => ?_
  obtain ⟨v1, v2⟩ := each_split eo
  rw [sortD_map, zip_snd rp] at v2
  obtain ⟨c, hc⟩ := sortedAll_at s.heap its out.toArray
  have hlen : (((xs.zip ds).mergeSort (PySem.W.dataLe false Prod.snd)).map Prod.fst).length ≤ sizeLine := by
    rw [List.length_map, List.length_mergeSort, zip_len rp, ← rp.length]; exact z
  exact ⟨.ref (s.heap.objs.size + 1), _, I.laid (t' := s.toks) (fun b u e => sortedAll_old e) (Nat.le_succ _) (show ObjOk X.prog X.w _ _ _ (.lst (((xs.zip ds).mergeSort (PySem.W.dataLe false Prod.snd)).map Prod.fst)) from ⟨hlen, out, c, v1, hc⟩), rfl, q _ _ v2 (I.hok.fresh (Nat.le_succ _))⟩
/-- sorted(..) of what was gathered: its items stand for some ds of which Pd holds -/
theorem sorted_from {a : Addr} {Q : VK} {Pd : List D → Prop} (hs : Same G H) (so : ∀ ds, Pd ds → sortable ds = true) (hu : X.A.units + 80 < cLine) (q : ∀ ds ys p, Pd ds → RpAll X.K G ys (sortD ds) → H p = none → Q (.ref p) (upd H p (.lst ys)))
    (col : ∀ (E' : Value → Shared → Prop) (R : List Value → Shared → Prop), (∀ s1 vs xs ds, Inv X pins σ H s1 → Vals xs vs → Pd ds → RpAll X.K G xs ds → xs.length ≤ sizeLine → R vs s1) → wpAny (model X.prog X.w) X.A.in1 (collect (.ref a)) R E' s) :
    wpAny (model X.prog X.w) X.A (call (.builtin "sorted") [.ref a]) (EP X pins σ Q) X.xe s := by
  refine Calls.call_function_entry kind_sorted plain_sorted entry_sorted (args_sorted1 _) ?_
  unfold Builtin.«sorted»
  refine wpAny_bind (m := checkCount "sorted" 1 1 _) (wpAny_pure ?_)
  refine wpAny_bind (col _ _ fun s1 vs xs ds I1 rv hp rp z => ?_)
  have hvl : vs.length = xs.length := rv.length.symm
  refine wpAny_bind (wpAny_newList ?_ (by rw [hvl]; exact z))
  have hoL : (s1.heap.push (seqObj "list" vs.toArray 0)).get? s1.heap.objs.size = some (seqObj "list" vs.toArray 0) := Heap.get?_push_size _ rfl
  obtain ⟨p1, p2, p3, _, p5⟩ := sort_prem rp (so ds hp) hu
  have er := each_pairs rv rp
  have k : ∀ b o, s1.heap.get? b = some o → (s1.heap.push (seqObj "list" vs.toArray 0)).get? b = some o := fun b o e => Heap.get?_push_of_some _ e
  show wpAny _ _ _ _ _ { s1 with heap := s1.heap.push (seqObj "list" vs.toArray 0) }
  refine wpAny_bind (wpAny_holding (PySem.W.list_sort_data (s := { s1 with heap := s1.heap.push (seqObj "list" vs.toArray 0) }) (vs := vs) (bs := xs.zip ds) (enc := Prod.snd) (R := fun v p => RelV p.1 v ∧ Rp X.K G p.1 p.2) hoL er
    (each_readsBut I1 hs er p3 (Nat.le_refl _) _ k) p1 p2 (by rw [zip_len rp, ← rp.length]; exact z) p5 fun out ho eo => ?_))
  obtain ⟨v1, v2⟩ := each_split eo
  rw [sortD_map, zip_snd rp] at v2
  obtain ⟨c, hc⟩ := sortedHeap_at (vs := vs) (out := out.toArray) hoL
  have hlen : (((xs.zip ds).mergeSort (PySem.W.dataLe false Prod.snd)).map Prod.fst).length ≤ sizeLine := by
    rw [List.length_map, List.length_mergeSort, zip_len rp, ← rp.length]; exact z
  refine wpAny_pure ⟨_, rfl, .ref s1.heap.objs.size, _, I1.laid (t' := s1.toks) (fun b u e => ?_) (Nat.le_refl _) (show ObjOk X.prog X.w _ _ _ (.lst (((xs.zip ds).mergeSort (PySem.W.dataLe false Prod.snd)).map Prod.fst)) from ⟨hlen, out, c, v1, hc⟩), rfl, q ds _ _ hp v2 (I1.hok.fresh (Nat.le_refl _))⟩
  have hb : b < s1.heap.objs.size := Heap.lt_size e
  rw [sortedHeap_old (Nat.ne_of_lt hb) (by rw [size_push']; exact Nat.lt_succ_of_lt hb)]
  exact Heap.get?_push_of_some _ e
theorem RpKv.keys : ∀ {kvs : List (Key × V)} {ds : List (D × D)}, RpKv K G kvs ds → RpAll K G (kvs.map fun p => kV p.1) (ds.map (·.1))
  | _, _, .nil => .nil
  | _, _, .cons a _ t => .cons a (RpKv.keys t)
/-- sorted(d) -/
def rSortDict (K : PySem.W.Frag) : List V → Hp → VK → Prop := fun us H Q => ∃ a kvs ds G, us = [.ref a] ∧ Same G H ∧ Rd H a (.dK kvs) ∧ RpKv K G kvs ds ∧ sortable (ds.map (·.1)) = true ∧ ∀ ys p, RpAll K G ys (sortD (ds.map (·.1))) → H p = none → Q (.ref p) (upd H p (.lst ys))
theorem call_sortDict (hu : X.A.units + 80 < cLine) (hcalm : X.calm = true) : CallR X (.builtin "sorted") (rSortDict X.K) := by
  intro pins s σ H us vs Q I r q
  obtain ⟨a, kvs, ds, G, rfl, hs, hH, rp, so, q⟩ := q
  obtain ⟨u, rfl, ru⟩ := vals1 r
  cases ru
  obtain ⟨z, lo, vs, rel, dd⟩ := dk_rd I.hok hH
  obtain ⟨ep, hat⟩ := dd.dictAt
  have h16 : vs.length ≤ sizeLine := by rw [← rel.length]; exact z
  refine sorted_from (Pd := fun l => l = ds.map (·.1)) hs (fun l e => e ▸ so) hu (fun l ys p e r h => q ys p (e ▸ r) h) fun E' R hR => ?_
  refine PySem.W.kdu_collect (A := X.A.in1) (PySem.W.kdl_dict (knd := mixKind X.prog X.w) (kvs := vs) (ep := ep) lo) (I.ok.hd hcalm) hat h16 fun h' tk acc hk hacc => ?_
  have hl : (kvs.map fun p => kV p.1).length = acc.toList.length := by
    have h1 := rel.length
    have h2 := hacc.1
    rw [List.length_map]
    simp only [Array.length_toList]
    omega
  refine hR _ _ (kvs.map fun p => kV p.1) _ (I.kept hk) (vals_of_at hl fun j x u e1 e2 => ?_) rfl rp.keys (by rw [List.length_map]; exact z)
  obtain ⟨k, y, e3, e4⟩ := hacc.2 j u (by rw [← Array.getElem?_toList]; exact e2)
  rw [List.getElem?_map] at e1
  cases e5 : kvs[j]? with
  | none => rw [e5] at e1; cases e1
  | some p =>
    rw [e5] at e1
    have e6 : kV p.1 = x := Option.some.inj e1
    have e7 := rel.keys
    have e8 : (kvs.map (·.1))[j]? = some p.1 := by rw [List.getElem?_map, e5]; rfl
    rw [e7, List.getElem?_map, e3] at e8
    have e9 : k = p.1 := Option.some.inj e8
    rw [← e6, ← e9]
    exact relV_key e4
end
end Core
end

section
set_option Elab.async false
set_option linter.all false
set_option maxRecDepth 100000
set_option autoImplicit false
set_option maxHeartbeats 1000000
/-! Soundness 5: sorted(set(..)), len(set(..)). -/
namespace Core
open PySem PySem.Spec PyProof.Rows L2

/-! ### set(xs) of a list of ints -/
section
variable {P : Program} {w : World} {A : Around} {E : Value → Shared → Prop} {s : Shared}
/-- the empty set that is filled -/
def emptyS (w : World) : Obj := { cls := .type "set", dict := none, data := .set #[] 0 (.fresh 0 0 (!w.params.followText "set-order")) }
set_option maxHeartbeats 3200000 in
theorem setOfInts {l : Addr} {arr : Array Value} (ns : List Int) {Q : Value → Shared → Prop} (calm : A.handled = none) (isl : s.heap.IsList l arr) (hint : IntsAre arr.toList ns) (few : ns.length + 1 < scanBound)
    (goal : ∀ (h' : Heap) (tk c : Nat), SetR w h' s.heap.objs.size (fun j => decide (j ∈ ns)) c → c ≤ ns.length → (∀ b o, s.heap.get? b = some o → h'.get? b = some o) → Q (.ref s.heap.objs.size) { s with heap := h', toks := tk }) :
    wpAny (model P w) A (call (.type "set") [.ref l]) Q E s := by
  have sz : arr.size = ns.length := by have q := IntsAre.length hint; rwa [Array.length_toList] at q
  obtain ⟨c0, tl0, m1⟩ := F.called_set.mro
  have m2 := F.called_set.made
  have m3 := F.called_set.sub
  have m4 := F.called_set.notType
  have m5 := F.called_set.canCreate
  have m6 := F.typeCall_set_1 (.ref l)
  refine wpAny_call (codeAny_of_tree (show wpAny _ _ (callAny (.type "set") _) _ _ _ from wpAny_pure ⟨Code.quiet_builtin _ (by decide +kernel), codeAny_builtin F.entry_type_call ?_⟩))
  rw [Around.under_plain (weight_type_call_type "set" [.ref l] []) rfl]
  repeat (any_goals (first | assumption | wp_step))
  generalize hp1 : s.heap.push (emptyS w) = h1
  have top : h1.get? s.heap.objs.size = some (emptyS w) := by rw [← hp1]; exact Heap.get?_push_size _ rfl
  have old : ∀ b o, s.heap.get? b = some o → h1.get? b = some o := fun b o e => by rw [← hp1]; exact Heap.get?_push_of_some _ e
  have sz1 : h1.objs.size = s.heap.objs.size + 1 := by rw [← hp1]; exact Heap.size_push ..
  refine codeAny_mono (code_set_led1 (.ref l) (E := E) (Q₁ := fun obj t => obj = .ref s.heap.objs.size ∧ t = { s with heap := h1 }) ⟨rfl, by rw [← hp1]; rfl⟩) fun r t hr => ?_
  match r, hr with
  | .error _, hr => exact hr
  | .ok .next, hr => exact hr.elim
  | .ok .brk, hr => exact hr.elim
  | .ok .cont, hr => exact hr.elim
  | .ok (.ret obj), hr =>
    obtain ⟨rfl, rfl⟩ := hr
    have ty : Shared.TypeIs { s with heap := h1 } (.ref s.heap.objs.size) "set" := ⟨_, top, rfl⟩
    have i1 := F.called_set.init.lookup
    have i2 := F.called_set.init.bind (.ref s.heap.objs.size)
    repeat (any_goals (first | assumption | wp_step))
    refine codeAny_mono (codeAny_call_builtin (R := wants (fun r t2 => r = .none ∧ ∃ h' tk c, t2 = { s with heap := h', toks := tk } ∧ SetR w h' s.heap.objs.size (fun j => decide (j ∈ ns)) c ∧ c ≤ ns.length ∧ ∀ b o, s.heap.get? b = some o → h'.get? b = some o) E)
      F.called_set.init.plain F.entry_set_init (check_set_init_1 ty ?_)) fun r2 t2 hr2 => ?_
    · obtain ⟨⟨oc, od, dt, osl⟩, ho, hc, nl, hd⟩ := isl
      simp only at hc hd
      subst hc hd
      have ho1 := old _ _ ho
      have nset := F.sub_list_set
      have nfro := F.sub_list_frozenset
      have ndict : (Value.type "list" == Value.type "dict") = false := by decide
      have isl1 : h1.IsList l arr := ⟨_, ho1, rfl, nl, rfl⟩
      unfold Builtin.«set.__init__» noKeywords Builtin.Frozenset.updateFrom
      generalize hPI : pyIter = PI
      wp_walk
      subst hPI
      refine wpAny_pyIter_list isl1 (wpAny_bind (wpAny_runValue ?_))
      have lt : l < s.heap.objs.size := Heap.lt_size ho
      have cl3 : A.in1.in1.in1.handled = none := by simp [calm]
      have lt1 : l < h1.objs.size := by rw [sz1]; exact Nat.lt_succ_of_lt lt
      have lt2 : s.heap.objs.size < h1.objs.size := by rw [sz1]; exact Nat.lt_succ_self _
      have nI : l ≠ h1.objs.size := Nat.ne_of_lt lt1
      have nS : s.heap.objs.size ∉ [h1.objs.size, l] := by
        simp only [List.mem_cons, List.not_mem_nil, or_false, not_or]
        exact ⟨Nat.ne_of_lt lt2, Nat.ne_of_gt lt⟩
      have vals : ∀ (i : Nat) (v : Value), arr[i]? = some v → ∃ k t, ns[i]? = some k ∧ v = .int k t := fun i v hv => by
        have hi : i < ns.length := sz ▸ (Array.getElem?_eq_some_iff.mp hv).1
        obtain ⟨t, e⟩ := IntsAre.int_at hint i v (by rw [Array.getElem?_toList]; exact hv)
        have e2 : ns.getD i 0 = ns[i] := by simp [hi]
        exact ⟨ns[i], t, List.getElem?_eq_getElem hi, by rw [e, e2]⟩
      refine set_update_ints ((Walks.list cl3 _ l nI arr).toS) s.heap.objs.size nS ns sz few vals (arr.size - 0) 0 _ (by omega) (Nat.zero_le _) ⟨⟨_, Heap.get?_push_size _ rfl, rfl, rfl⟩, isl1.push _⟩
        ⟨0, Nat.le_refl 0, setR_new_at (Heap.get?_push_of_some _ top)⟩ fun t3 c3 mv hc3 hS3 => ?_
      obtain ⟨h3, g3, d3, k3, o3⟩ := t3
      obtain rfl : g3 = s.gens := mv.gens
      obtain rfl : d3 = s.drawn := mv.drawn
      obtain rfl : o3 = s.os := mv.os
      refine wpAny_pure (show wpAny _ _ (ret Value.none) _ _ _ from wpAny_pure ⟨rfl, h3, k3, c3, rfl, hS3, sz ▸ hc3, fun b o e => ?_⟩)
      have hb := Heap.lt_size e
      exact mv.heap b o (by simp only [List.mem_cons, List.not_mem_nil, or_false, not_or]; exact ⟨Nat.ne_of_lt hb, Nat.ne_of_lt (Nat.lt_trans hb lt2)⟩) (Heap.get?_push_of_some _ (old _ _ e))
    · match r2, hr2 with
      | .error _, hr2 => exact hr2
      | .ok .next, hr2 => exact hr2.elim
      | .ok .brk, hr2 => exact hr2.elim
      | .ok .cont, hr2 => exact hr2.elim
      | .ok (.ret r), hr2 =>
        obtain ⟨rfl, h', tk, c, rfl, hS, hc, hk⟩ := hr2
        repeat (any_goals (first | assumption | wp_step))
        exact goal _ _ _ hS hc hk
end

end Core
end

section
set_option Elab.async false
set_option linter.all false
set_option maxRecDepth 100000
set_option autoImplicit false
set_option maxHeartbeats 1000000
/-! Soundness 5: sorted(set(..)). -/
namespace Core
open PySem

/-! ### sorted lists, each once -/
theorem strict_unique {α : Type} (lt : α → α → Prop) (irr : ∀ a, ¬ lt a a) (asym : ∀ a b, lt a b → ¬ lt b a) : ∀ xs ys : List α, xs.Pairwise lt → ys.Pairwise lt → (∀ a, a ∈ xs ↔ a ∈ ys) → xs = ys
  | [], [], _, _, _ => rfl
  | [], y :: ys, _, _, h => by have := (h y).mpr List.mem_cons_self; cases this
  | x :: xs, [], _, _, h => by have := (h x).mp List.mem_cons_self; cases this
  | x :: xs, y :: ys, hx, hy, h => by
    have e : x = y := by
      rcases List.mem_cons.mp ((h x).mp List.mem_cons_self) with e | e
      · exact e
      · rcases List.mem_cons.mp ((h y).mpr List.mem_cons_self) with e2 | e2
        · exact e2.symm
        · exact absurd ((List.pairwise_cons.mp hy).1 x e) (asym _ _ ((List.pairwise_cons.mp hx).1 y e2))
    subst e
    have nx : x ∉ xs := fun z => irr _ ((List.pairwise_cons.mp hx).1 x z)
    have ny : x ∉ ys := fun z => irr _ ((List.pairwise_cons.mp hy).1 x z)
    rw [strict_unique lt irr asym xs ys (List.pairwise_cons.mp hx).2 (List.pairwise_cons.mp hy).2 fun a => ⟨fun ha => ?_, fun ha => ?_⟩]
    · rcases List.mem_cons.mp ((h a).mp (List.mem_cons_of_mem _ ha)) with e | e
      · exact absurd (e ▸ ha) nx
      · exact e
    · rcases List.mem_cons.mp ((h a).mpr (List.mem_cons_of_mem _ ha)) with e | e
      · exact absurd (e ▸ ha) ny
      · exact e
section
variable {α : Type} {lt : α → α → Bool} (tr : ∀ a b c, lt a b = true → lt b c = true → lt a c = true) (tot : ∀ a b, lt a b = false → lt b a = false → a = b)
theorem mem_insS (tot : ∀ a b, lt a b = false → lt b a = false → a = b) (x a : α) : ∀ ys : List α, a ∈ insS lt x ys ↔ a = x ∨ a ∈ ys
  | [] => by simp [insS]
  | y :: ys => by
    unfold insS
    split
    · simp
    · split
      · rw [List.mem_cons, mem_insS tot x a ys, List.mem_cons]
        constructor
        · rintro (h | h | h)
          · exact .inr (.inl h)
          · exact .inl h
          · exact .inr (.inr h)
        · rintro (h | h | h)
          · exact .inr (.inl h)
          · exact .inl h
          · exact .inr (.inr h)
      · rename_i h1 h2
        have e : x = y := tot x y (by simpa using h1) (by simpa using h2)
        subst e
        simp
theorem insS_sorted (tr : ∀ a b c, lt a b = true → lt b c = true → lt a c = true) (tot : ∀ a b, lt a b = false → lt b a = false → a = b) (x : α) : ∀ ys : List α, ys.Pairwise (fun a b => lt a b = true) → (insS lt x ys).Pairwise (fun a b => lt a b = true)
  | [], _ => by simp [insS]
  | y :: ys, h => by
    obtain ⟨h1, h2⟩ := List.pairwise_cons.mp h
    unfold insS
    split
    · rename_i e
      exact List.pairwise_cons.mpr ⟨fun a ha => by
        rcases List.mem_cons.mp ha with rfl | ha
        · exact e
        · exact tr _ _ _ e (h1 a ha), h⟩
    · split
      · rename_i _ e
        exact List.pairwise_cons.mpr ⟨fun a ha => by
          rcases (mem_insS tot x a ys).mp ha with rfl | ha
          · exact e
          · exact h1 a ha, insS_sorted tr tot x ys h2⟩
      · exact h
theorem mem_ssetL (tot : ∀ a b, lt a b = false → lt b a = false → a = b) (a : α) : ∀ xs : List α, a ∈ ssetL lt xs ↔ a ∈ xs
  | [] => by simp [ssetL]
  | x :: xs => by
    show a ∈ insS lt x (ssetL lt xs) ↔ _
    rw [mem_insS tot, mem_ssetL tot a xs, List.mem_cons]
theorem ssetL_sorted (tr : ∀ a b c, lt a b = true → lt b c = true → lt a c = true) (tot : ∀ a b, lt a b = false → lt b a = false → a = b) : ∀ xs : List α, (ssetL lt xs).Pairwise (fun a b => lt a b = true)
  | [] => List.Pairwise.nil
  | x :: xs => insS_sorted tr tot x _ (ssetL_sorted tr tot xs)
end
abbrev ltI : Int → Int → Bool := fun a b => decide (a < b)
abbrev ltL : List Int → List Int → Bool := fun a b => decide (a < b)
theorem ltI_tr : ∀ a b c, ltI a b = true → ltI b c = true → ltI a c = true := fun a b c h1 h2 => by
  simp only [ltI, decide_eq_true_eq] at *
  omega
theorem ltI_tot : ∀ a b, ltI a b = false → ltI b a = false → a = b := fun a b h1 h2 => by
  simp only [ltI, decide_eq_false_iff_not] at *
  omega
theorem ltL_tr : ∀ a b c, ltL a b = true → ltL b c = true → ltL a c = true := fun a b c h1 h2 => by
  simp only [ltL, decide_eq_true_eq] at *
  exact List.lt_trans h1 h2
theorem ltL_tot : ∀ a b, ltL a b = false → ltL b a = false → a = b := fun a b h1 h2 => by
  simp only [ltL, decide_eq_false_iff_not] at *
  exact List.le_antisymm (List.not_lt.mp h2) (List.not_lt.mp h1)
end Core
end

section
set_option Elab.async false
set_option linter.all false
set_option maxRecDepth 100000
set_option autoImplicit false
set_option maxHeartbeats 1000000
/-! Soundness 6: sorted(set(..)). -/
namespace Core
open PySem PySem.Spec PyProof.Rows L2
theorem perm_of_map {α β : Type} (f : α → β) : ∀ {xs : List β} {ys : List α}, xs.Perm (ys.map f) → ∃ zs : List α, zs.Perm ys ∧ xs = zs.map f
  | [], ys, h => by
    have e := h.symm.eq_nil
    rw [List.map_eq_nil_iff] at e
    subst e
    exact ⟨[], .nil, rfl⟩
  | x :: xs, ys, h => by
    obtain ⟨y, hy, rfl⟩ := List.mem_map.mp (h.mem_iff.mp List.mem_cons_self)
    obtain ⟨s, t, rfl⟩ := List.append_of_mem hy
    have h2 : xs.Perm ((s ++ t).map f) := by
      have h3 : (f y :: xs).Perm (f y :: (s ++ t).map f) := h.trans (by
        rw [List.map_append, List.map_cons, List.map_append]
        exact List.perm_middle)
      exact h3.cons_inv
    obtain ⟨zs, h4, rfl⟩ := perm_of_map f h2
    exact ⟨y :: zs, (h4.cons y).trans List.perm_middle.symm, rfl⟩
theorem le_encT (a b : List Int) : PySem.W.dataLe false id (encT a) (encT b) = decide (a ≤ b) := by
  have h := congrFun (congrFun (PySem.W.dataLe_eq false (id : D → D)) (encT a)) (encT b)
  rw [h]
  show (!PySem.W.dataLt (.tuple (b.map .int)) (.tuple (a.map .int))) = _
  rw [PySem.W.dataLt_tuple]
  show (!PySem.W.rowLt (b.map .int) (a.map .int)) = _
  rw [PySem.W.dataLt_ints]
  by_cases h : b < a
  · rw [decide_eq_true h, decide_eq_false (fun z => z h)]; rfl
  · rw [decide_eq_false h, decide_eq_true (show a ≤ b from h)]; rfl
theorem sortD_encT (ls : List (List Int)) : sortD (ls.map encT) = (ls.mergeSort fun a b => decide (a ≤ b)).map encT := by
  unfold sortD
  exact (List.map_mergeSort fun a _ b _ => (le_encT a b).symm).symm
theorem sorted_set_eq {ls nss : List (List Int)} (nd : ls.Nodup) (hm : ∀ a, a ∈ ls ↔ a ∈ nss) : (ls.mergeSort fun a b => decide (a ≤ b)) = ssetL ltL nss := by
  have pm := List.mergeSort_perm ls fun a b => decide (a ≤ b)
  have pw := List.pairwise_mergeSort (le := fun a b : List Int => decide (a ≤ b)) (fun a b c h1 h2 => by
      simp only [decide_eq_true_eq] at *
      exact List.le_trans h1 h2) (fun a b => by
      simp only [Bool.or_eq_true, decide_eq_true_eq]
      exact List.le_total a b) ls
  have nd2 : (ls.mergeSort fun a b => decide (a ≤ b)).Nodup := pm.nodup_iff.mpr nd
  refine strict_unique (fun a b => ltL a b = true) (fun a h => by simp only [ltL, decide_eq_true_eq] at h; exact List.lt_irrefl a h) (fun a b h1 h2 => by
    simp only [ltL, decide_eq_true_eq] at h1 h2
    exact List.lt_irrefl a (List.lt_trans h1 h2)) _ _ ?_ (ssetL_sorted ltL_tr ltL_tot nss) fun a => by rw [pm.mem_iff, hm, mem_ssetL ltL_tot]
  refine (List.Pairwise.and pw nd2).imp fun {a b} h => ?_
  obtain ⟨h1, h2⟩ := h
  simp only [decide_eq_true_eq] at h1
  simp only [ltL, decide_eq_true_eq]
  exact Classical.byContradiction fun h3 => h2 (List.le_antisymm h1 (List.not_lt.mp h3))

section
variable {X : L2.Cx} {K : PySem.W.Frag} {G H : Hp} {pins : List (Addr × Obj)} {σ : L2.St} {s : Shared}
theorem intsOf_eq : ∀ {ds : List D} {ns : List Int}, intsOf ds = some ns → ds = ns.map .int
  | [], ns, h => by cases h; rfl
  | d :: ds, ns, h => by
    cases d with
    | int i =>
      simp only [intsOf] at h
      obtain ⟨r, h1, rfl⟩ := Option.map_eq_some_iff.mp h
      rw [intsOf_eq h1]
      rfl
    | none => cases h
    | bool _ => cases h
    | str _ => cases h
    | list _ => cases h
    | tuple _ => cases h
    | dict _ => cases h
theorem tupsOf_eq : ∀ {ds : List D} {nss : List (List Int)}, tupsOf ds = some nss → ds = nss.map encT
  | [], ns, h => by cases h; rfl
  | d :: ds, nss, h => by
    cases d with
    | tuple xs =>
      simp only [tupsOf] at h
      split at h
      · rename_i ns r h1 h2
        cases h
        rw [tupsOf_eq h2, intsOf_eq h1]
        rfl
      · cases h
    | none => cases h
    | bool _ => cases h
    | str _ => cases h
    | list _ => cases h
    | int _ => cases h
    | dict _ => cases h
theorem vals_int : ∀ {vs : List V} {ns : List Int}, RpAll K G vs (ns.map .int) → vs = ns.map V.int
  | _, [], h => by cases h; rfl
  | _, n :: ns, h => by
    cases h with
    | cons a b =>
      cases a
      rw [vals_int b]
      rfl
theorem rp_ints : ∀ ns : List Int, RpAll K G (ns.map V.int) (ns.map .int)
  | [] => .nil
  | n :: ns => .cons (.int n) (rp_ints ns)
theorem vals_tups : ∀ {vs : List V} {nss : List (List Int)}, RpAll K G vs (nss.map encT) → ∃ ks : List (Addr × List Int), vs = ks.map (fun p => V.ref p.1) ∧ nss = ks.map (·.2) ∧ ∀ p ∈ ks, SqT K G p.1 (p.2.map V.int)
  | _, [], h => by cases h; exact ⟨[], rfl, rfl, fun p hp => by cases hp⟩
  | _, n :: ns, h => by
    cases h with
    | cons a b =>
      obtain ⟨ks, rfl, rfl, h3⟩ := vals_tups b
      cases a with
      | @tup t xs _ h1 _ h2 =>
        have e := vals_int h2
        subst e
        exact ⟨(t, n) :: ks, rfl, rfl, fun p hp => by
          rcases List.mem_cons.mp hp with rfl | hp
          · exact h1
          · exact h3 p hp⟩

/-- set(xs) of ints -/
def rSetI (K : PySem.W.Frag) (w : World) : List V → Hp → VK → Prop := fun us H Q => ∃ (a : Addr) (ns : List Int), us = [.ref a] ∧ SqL K H a (ns.map V.int) ∧ ns.length < 64 ∧ ∀ p S n, H p = none → (∀ k, S k = true ↔ k ∈ ns) → n < 64 → Q (.ref p) (upd H p (SetO w p S n))
theorem call_setI (hc : X.calm = true) : CallR X (.type "set") (rSetI X.K X.w) := by
  intro pins s σ H us vs Q I r q
  obtain ⟨a, ns, rfl, hH, hf, q⟩ := q
  obtain ⟨u, rfl, ru⟩ := vals1 r
  cases ru
  obtain ⟨z, its, n, sl, rv, hl, e⟩ := sq_lst I hH
  refine setOfInts (P := X.prog) (w := X.w) (arr := its.toArray) ns (I.ok.hd hc) ⟨_, e, rfl, n, rfl⟩ (Vals.ints rv) (by unfold scanBound; omega) fun h' tk c hS hle hk => ?_
  exact ⟨.ref s.heap.objs.size, _, I.laid (t' := tk) hk (Nat.le_refl _) (setO_new hS), rfl, q _ _ c (I.hok.fresh (Nat.le_refl _)) (fun k => by simp) (by omega)⟩
/-- sorted(a set of tuples) -/
def rSortTT (K : PySem.W.Frag) (P : Program) (w : World) : List V → Hp → VK → Prop := fun us H Q => ∃ (a : Addr) (L : List (Addr × List Int)) (G : Hp), us = [.ref a] ∧ Same G H ∧ H a = some (SetTO P w a L) ∧ (∀ p ∈ L, SqT K G p.1 (p.2.map V.int)) ∧ (∀ p ∈ L, p.2 ≠ [] ∧ p.2.length ≤ lineMax) ∧
  ∀ (ls : List (List Int)) (ys : List V) (p : Addr), ls.length < 64 → ls.Perm (L.map (·.2)) → ls.Nodup → RpAll K G ys (sortD (ls.map encT)) → H p = none → Q (.ref p) (upd H p (.lst ys))
theorem alike_ints2 : ∀ xs ys : List Int, PySem.W.alikeAll (xs.map .int) (ys.map .int) = true := PySem.W.alike_ints
theorem dep_ints : ∀ ns : List Int, depAll (ns.map .int) = 0
  | [] => rfl
  | n :: ns => by
    show max 0 (depAll (ns.map .int)) = 0
    rw [dep_ints ns]
    rfl
theorem sortable_tups {ls : List (List Int)} (h : ∀ l ∈ ls, l ≠ []) : sortable (ls.map encT) = true := by
  unfold sortable
  simp only [Bool.and_eq_true, Bool.or_eq_true]
  refine ⟨⟨?_, .inl ?_⟩, ?_⟩
  · unfold allAlike
    simp only [List.all_eq_true, List.mem_map]
    rintro x ⟨a, _, rfl⟩ y ⟨b, _, rfl⟩
    exact alike_ints2 a b
  · simp only [List.all_eq_true, List.mem_map]
    rintro x ⟨a, ha, rfl⟩
    cases a with
    | nil => exact absurd rfl (h [] ha)
    | cons n ns => rfl
  · simp only [List.all_eq_true, List.mem_map]
    rintro x ⟨a, _, rfl⟩
    unfold okD
    refine decide_eq_true ?_
    show depAll (a.map .int) + 1 ≤ 64
    rw [dep_ints]
    decide
theorem call_sortTT (hu : X.A.units + 80 < cLine) (hc : X.calm = true) : CallR X (.builtin "sorted") (rSortTT X.K X.prog X.w) := by
  intro pins s σ H us vs Q I r q
  obtain ⟨a, L, G, rfl, hs, ha, hk, hne, q⟩ := q
  obtain ⟨u, rfl, ru⟩ := vals1 r
  cases ru
  have R0 : SetT0 X.prog X.w s.heap a L := (I.hok a _ ha).1
  obtain ⟨es, ep, t, R⟩ := R0.full fun p hp => I.isT (Same.seqT hs (hk p hp))
  have nd := R.nd
  refine sorted_from (Pd := fun ds => ∃ ls : List (List Int), ds = ls.map encT ∧ ls.Perm (L.map (·.2))) hs (fun ds h => ?_) hu (fun ds ys p h rp hp => ?_) fun E' R' hR => ?_
  · obtain ⟨ls, rfl, pm⟩ := h
    refine sortable_tups fun l hl => ?_
    obtain ⟨p, hp, rfl⟩ := List.mem_map.mp (pm.mem_iff.mp hl)
    exact (hne p hp).1
  · obtain ⟨ls, rfl, pm⟩ := h
    exact q ls ys p (by rw [pm.length_eq, List.length_map]; exact R.few) pm (pm.nodup_iff.mpr nd) rp hp
  · obtain ⟨o, ho, hex, hd⟩ := R.ob
    have hsz := R.size
    have hfew := R.few
    refine collect_set (P := X.prog) (w := X.w) (A := X.A.in1) (I.ok.hd hc) ⟨o, ho, hex.1, hd⟩ R.fits (by unfold scanBound; omega) R.tab.ris R.led fun s1 vs k1 hz g1 o1 pm => ?_
    have hes : es.toList.map (·.2) = L.map fun q => Value.ref q.1 := by
      rw [R.rows]
      unfold rowsOf
      rw [List.map_map]
      rfl
    rw [hes] at pm
    obtain ⟨L1, p1, rfl⟩ := perm_of_map _ pm
    obtain ⟨h1, gg, dd, tt, oo⟩ := s1
    obtain rfl : gg = s.gens := g1
    obtain rfl : oo = s.os := o1
    have I1 : Inv X pins σ H ⟨h1, s.gens, dd, tt, s.os⟩ := I.call (ch := []) (Un.kept k1) (I.hok.kept k1) I.bare (fun b z => nomatch z)
    have rp : ∀ L2 : List (Addr × List Int), (∀ q ∈ L2, q ∈ L) → RpAll X.K G (L2.map fun q => V.ref q.1) ((L2.map (·.2)).map encT) := fun L2 hL2 => by
      induction L2 with
      | nil => exact .nil
      | cons q L2 ih =>
        have hq := hL2 q List.mem_cons_self
        exact .cons (.tup (hk q hq) (by rw [List.length_map]; exact (hne q hq).2) (rp_ints _)) (ih fun x hx => hL2 x (List.mem_cons_of_mem _ hx))
    exact hR _ _ _ _ I1 (vals_of_refs L1) ⟨L1.map (·.2), rfl, p1.map _⟩ (rp L1 fun q hq => p1.mem_iff.mp hq) (by rw [List.length_map, p1.length_eq, sizeLine_eq]; have := R.few; omega)

theorem ssetI_eq {ns ms : List Int} (h1 : ms.Pairwise (· < ·)) (h2 : ∀ k, k ∈ ms ↔ k ∈ ns) : ms = ssetL ltI ns :=
  strict_unique (fun a b => ltI a b = true) (fun a h => by simp only [ltI, decide_eq_true_eq] at h; omega) (fun a b h1 h2 => by simp only [ltI, decide_eq_true_eq] at h1 h2; omega) _ _
    (h1.imp fun h => by simp only [ltI, decide_eq_true_eq]; exact h) (ssetL_sorted ltI_tr ltI_tot ns) fun a => by rw [h2, mem_ssetL ltI_tot]
def rSetA (X : L2.Cx) : List V → Hp → VK → Prop := fun xs H Q => rSetI X.K X.w xs H Q ∨ rSetOfT X.K X.prog X.w xs H Q
def rSortA (X : L2.Cx) : List V → Hp → VK → Prop := fun xs H Q => rSortedSet X.w xs H Q ∨ rSortTT X.K X.prog X.w xs H Q
set_option maxHeartbeats 40000 in
theorem pe_sset {a : Expr} {ta : TE} {p p2 q pos : Pos} (hu : X.A.units + 80 < cLine) (hc : X.calm = true) (hg : Gl X "sorted") (hm : X.mg "sorted" = none) (hg2 : Gl X "set") (hm2 : X.mg "set" = none) (ha : PE X a ta)
    (na : starEach [a] X.env = (false, eval a X.env) :: starEach [] X.env) : PE X (.Call (.Name "sorted" p) [.Call (.Name "set" p2) [a] [] q] [] pos) (tCB (rSortA X) (tCons (tCB (rSetA X) (tCons ta tNil)) tNil)) :=
  pe_callB (CallR.or (cr_sortedSet hc) (call_sortTT hu hc)) hg hm (by decide +kernel) (pa_cons (pe_callTy (CallR.or (call_setI hc) (cr_setOfT hc (by omega))) hg2 hm2 (by decide +kernel) (pa_cons ha pa_nil na) (he := na)) pa_nil)
set_option maxHeartbeats 200000 in
/-- what sorted(set(x)) makes -/
theorem sset_reads {x : V} {d r : D} {Q : VK} (hs : Same G H) (hx : Pk X.K G H x d) (hd : do1 .sset d = some r) (q : ∀ v G' H', GF H G G' H' → Nw X.K G' H H' v r → Q v H') : rSetA X [x] H fun y H2 => rSortA X [y] H2 Q := by
  have two : ∀ {p p2 : Addr} {o : HO} {ys : List V}, H p = none → (upd H p o) p2 = none → GF H G G (upd (upd H p o) p2 (.lst ys)) ∧ H p2 = none ∧ G p2 = none := fun {p p2 o ys} e1 e2 => by
    have n : p2 ≠ p := fun z => by rw [z, upd_same] at e2; cases e2
    have e3 : H p2 = none := by rw [← upd_ne (H := H) (o := o) n]; exact e2
    have a := gf_new (o := o) hs e1
    have b := gf_new (o := HO.lst ys) a.gh e2
    exact ⟨⟨Same.refl G, b.gh, a.hh.trans b.hh, fun _ _ z => .inl z, fun _ _ h => h⟩, e3, none_of_same hs e3⟩
  cases d <;> simp only [do1] at hd <;> first | cases hd | skip
  rename_i ds
  obtain ⟨a, vs, rfl, h1, h2, h3⟩ := hx.list hs
  unfold sset at hd
  split at hd
  · rename_i ns e
    split at hd
    · rename_i hn
      cases hd
      have e2 := intsOf_eq e
      subst e2
      have e3 := vals_int h2
      subst e3
      refine .inl ⟨a, ns, rfl, h1, hn, fun p S n hp hS hn2 => .inl ⟨p, S, n, rfl, upd_same, hn2, fun ms p2 m1 m2 m3 hp2 => ?_⟩⟩
      have e4 : ms = ssetL ltI ns := ssetI_eq m1 fun k => by rw [m2, hS]
      subst e4
      obtain ⟨g, e5, e6⟩ := two (o := SetO X.w p S n) (ys := (ssetL ltI ns).map V.int) hp hp2
      refine q _ G _ g ⟨?_, p2, _, rfl, upd_same, e5, e6, rp_ints _⟩
      rw [List.length_map, m3]
      have : (64 : Nat) ≤ lineMax := by decide
      omega
    · cases hd
  · rename_i e
    split at hd
    · rename_i nss e2
      split at hd
      · rename_i hn
        simp only [Bool.and_eq_true, decide_eq_true_eq, List.all_eq_true, Bool.not_eq_true', List.isEmpty_eq_false_iff] at hn
        obtain ⟨hn, hne⟩ := hn
        cases hd
        have e3 := tupsOf_eq e2
        subst e3
        obtain ⟨ks, rfl, rfl, hk⟩ := vals_tups h2
        rw [List.length_map] at hn
        have hlen : ∀ p ∈ ks, p.2.length ≤ lineMax := fun p hp => by
          obtain ⟨i, hi, e5⟩ := List.getElem_of_mem hp
          obtain ⟨v, e6, e7⟩ := h2.get (i := i) (d := encT p.2) (by rw [List.getElem?_map, List.getElem?_map, List.getElem?_eq_getElem hi, e5]; rfl)
          cases e7 with
          | tup _ z _ => rw [List.length_map] at z; exact z
        refine .inr ⟨a, ks, rfl, ?_, fun p hp => Same.seqT hs (hk p hp), hn, fun p L hp hL1 hL2 => ?_⟩
        · exact h1
        · refine .inr ⟨p, L, G, rfl, (gf_new hs hp).gh, upd_same, fun x hx => hk x (hL1 x hx), fun x hx => ⟨hne _ (List.mem_map.mpr ⟨x, hL1 x hx, rfl⟩), hlen x (hL1 x hx)⟩, fun ls ys p2 hls pm nd rp hp2 => ?_⟩
          · have hss : ∀ b, b ∈ ls ↔ b ∈ ks.map (·.2) := fun b => by
              rw [pm.mem_iff]
              constructor
              · intro hb
                obtain ⟨x, hx, rfl⟩ := List.mem_map.mp hb
                exact List.mem_map.mpr ⟨x, hL1 x hx, rfl⟩
              · intro hb
                obtain ⟨x, hx, rfl⟩ := List.mem_map.mp hb
                exact hL2 x hx
            have e9 : sortD (ls.map encT) = (ssetL ltL (ks.map (·.2))).map encT := by rw [sortD_encT, sorted_set_eq nd hss]
            rw [e9] at rp
            obtain ⟨g, e5, e6⟩ := two (o := SetTO X.prog X.w p L) (ys := ys) hp hp2
            have e10 : ((ssetL ltL (ks.map (·.2))).map encT).length ≤ lineMax := by
              rw [List.length_map, ← sorted_set_eq nd hss, List.length_mergeSort]
              exact Nat.le_trans (Nat.le_of_lt hls) (by decide)
            exact q _ G _ g ⟨e10, p2, _, rfl, upd_same, e5, e6, rp⟩
      · cases hd
    · cases hd
end
end Core
end

section
set_option Elab.async false
set_option linter.all false
set_option maxRecDepth 100000
set_option autoImplicit false
set_option maxHeartbeats 400000
/-! Soundness 7: the other operations. -/
namespace Core
open PySem PySem.Spec PyProof.Rows L2
section
variable {X : L2.Cx} {K : PySem.W.Frag} {G H : Hp} {pins : List (Addr × Obj)} {σ : L2.St} {s : Shared}
theorem RpKv.length {kvs : List (Key × V)} {ds : List (D × D)} (r : RpKv K G kvs ds) : kvs.length = ds.length := by
  cases r with
  | nil => rfl
  | cons _ _ b => rw [List.length_cons, List.length_cons, RpKv.length b]
theorem ok_len : CallR X (.builtin "len") (S1 X.K .len) := op1_of fun d r x G H Q hs hx hd q => by
  cases d <;> simp only [do1] at hd <;> first | cases hd | skip
  · obtain ⟨a, vs, rfl, h1, h2, h3⟩ := hx.list hs
    refine ⟨_, call_len, _, vs.length, rfl, .inl ⟨vs, h1, rfl⟩, ?_⟩
    rw [h2.length]; exact fin_int hs q
  · obtain ⟨a, vs, rfl, h1, g1, h2, h3⟩ := hx.tuple hs
    refine ⟨_, call_len, _, vs.length, rfl, .inr ⟨vs, h1, rfl⟩, ?_⟩
    rw [h2.length]; exact fin_int hs q
  · obtain ⟨a, kvs, rfl, h1, h2⟩ := hx.dict hs
    refine ⟨_, call_lenD, a, kvs, rfl, h1, ?_⟩
    rw [h2.length]; exact fin_int hs q
theorem ok_abs : CallR X (.builtin "abs") (S1 X.K .abs) := op1_of fun d r x G H Q hs hx hd q => by
  cases d <;> simp only [do1] at hd <;> cases hd
  exact ⟨_, call_abs, _, by rw [hx.int], fin_int hs q⟩
theorem ok_int : CallR X (.type "int") (S1 X.K .int_) := op1_of fun d r x G H Q hs hx hd q => by
  cases d <;> simp only [do1] at hd <;> cases hd
  · exact ⟨_, call_int1, .inr ⟨_, by rw [hx.bool], fin_int hs q⟩⟩
  · exact ⟨_, call_int1, .inl ⟨_, by rw [hx.int], fin_int hs q⟩⟩
theorem cr_tuple : CallR X (.type "tuple") (fun xs H Q => ∃ x, xs = [x] ∧ kTup X.K x H Q) := by
  intro pins s σ H xs us Q I r h
  obtain ⟨x, rfl, q⟩ := h
  obtain ⟨u, rfl, ru⟩ := vals1 r
  exact rl_tuple pins s σ H x u Q I ru q
theorem ok_tuple : CallR X (.type "tuple") (S1 X.K .tuple_) := op1_of fun d r x G H Q hs hx hd q => by
  cases d <;> simp only [do1] at hd <;> cases hd
  · obtain ⟨a, vs, rfl, h1, h2, h3⟩ := hx.list hs
    exact ⟨_, cr_tuple, _, rfl, .inl ⟨a, vs, rfl, h1, fun p hp => q _ _ _ (gf_tup hs hp) (nw_tup hs hp h3 h2)⟩⟩
  · obtain ⟨a, vs, rfl, h1, g1, h2, h3⟩ := hx.tuple hs
    exact ⟨_, cr_tuple, _, rfl, .inr ⟨a, vs, rfl, h1, q _ G H (GF.refl hs) (.tup g1 h3 h2)⟩⟩
theorem ok_list : CallR X (.type "list") (S1 X.K .list_) := op1_of fun d r x G H Q hs hx hd q => by
  cases d <;> simp only [do1] at hd <;> cases hd
  · obtain ⟨a, vs, rfl, h1, h2, h3⟩ := hx.list hs
    exact ⟨_, call_list_of, a, vs, rfl, .inl h1, fun p hp => q _ _ _ (gf_new hs hp) (nw_list hs hp h3 h2)⟩
  · obtain ⟨a, vs, rfl, h1, g1, h2, h3⟩ := hx.tuple hs
    exact ⟨_, call_list_of, a, vs, rfl, .inr h1, fun p hp => q _ _ _ (gf_new hs hp) (nw_list hs hp h3 h2)⟩
theorem boolsOf_eq : ∀ {ds : List D} {bs : List Bool}, boolsOf ds = some bs → ds = bs.map .bool
  | [], ns, h => by cases h; rfl
  | d :: ds, ns, h => by
    cases d with
    | bool i =>
      simp only [boolsOf] at h
      obtain ⟨r, h1, rfl⟩ := Option.map_eq_some_iff.mp h
      rw [boolsOf_eq h1]
      rfl
    | none => cases h
    | int _ => cases h
    | str _ => cases h
    | list _ => cases h
    | tuple _ => cases h
    | dict _ => cases h
theorem vals_bool : ∀ {vs : List V} {ns : List Bool}, RpAll K G vs (ns.map .bool) → vs = ns.map V.bl
  | _, [], h => by cases h; rfl
  | _, n :: ns, h => by
    cases h with
    | cons a b =>
      cases a
      rw [vals_bool b]
      rfl
theorem ok_all (hc : X.calm = true) : CallR X (.builtin "all") (S1 X.K .all_) := op1_of fun d r x G H Q hs hx hd q => by
  cases d <;> simp only [do1] at hd <;> first | cases hd | skip
  obtain ⟨bs, h, rfl⟩ := Option.map_eq_some_iff.mp hd
  have e := boolsOf_eq h
  subst e
  obtain ⟨a, vs, rfl, h1, h2, h3⟩ := hx.list hs
  have e := vals_bool h2
  subst e
  exact ⟨_, cr_all hc, a, bs, rfl, h1, fin_bool hs q⟩
theorem ok_any (hc : X.calm = true) : CallR X (.builtin "any") (S1 X.K .any_) := op1_of fun d r x G H Q hs hx hd q => by
  cases d <;> simp only [do1] at hd <;> first | cases hd | skip
  obtain ⟨bs, h, rfl⟩ := Option.map_eq_some_iff.mp hd
  have e := boolsOf_eq h
  subst e
  obtain ⟨a, vs, rfl, h1, h2, h3⟩ := hx.list hs
  have e := vals_bool h2
  subst e
  exact ⟨_, cr_any hc, a, bs, rfl, h1, fin_bool hs q⟩
theorem ok_neg : UnR X (unaryOp .USub) (fun x H Q => S1 X.K .neg [x] H Q) := by
  intro pins s σ H x v Q I rx q
  obtain ⟨x', G, d, r, e, h1, h2, h4, h5⟩ := q
  cases e
  cases d <;> simp only [do1] at h4 <;> cases h4
  exact un_neg pins s σ H _ v Q I rx ⟨_, h2.int, fin_int h1 h5⟩
/-! ### isinstance -/
def tyN : D → String
  | .none => "NoneType"
  | .bool _ => "bool"
  | .int _ => "int"
  | .str _ => "str"
  | .list _ => "list"
  | .tuple _ => "tuple"
  | .dict _ => "dict"
theorem tyx {x : V} {d : D} (hs : Same G H) (hx : Pk K G H x d) : TyX K H x (.type (tyN d)) := by
  cases d with
  | none => rw [hx.none]; exact .base .non
  | bool b => rw [hx.bool]; exact .base (.bl b)
  | int b => rw [hx.int]; exact .base (.int b)
  | str b => rw [hx.str.1]; exact .base (.str b)
  | list ds =>
    obtain ⟨a, vs, rfl, h1, h2, h3⟩ := hx.list hs
    rcases h1 with (h1 | ⟨o, h1⟩) | ⟨o, its, n, h1, h4, _⟩
    · exact .base (.lst h1)
    · exact .base (.frz h1)
    · exact .kList h1 h4
  | tuple ds =>
    obtain ⟨a, vs, rfl, h1, g1, h2, h3⟩ := hx.tuple hs
    rcases h1 with (h1 | ⟨o, h1⟩) | ⟨o, its, n, h1, h4, _⟩
    · exact .base (.tup h1)
    · exact .fTuple h1
    · exact .kTuple h1 h4
  | dict ds =>
    obtain ⟨a, kvs, rfl, h1, h2⟩ := hx.dict hs
    exact .base (.dK h1)
def isOp : O1 → Option String
  | .isI => some "int"
  | .isB => some "bool"
  | .isT => some "tuple"
  | .isS => some "str"
  | _ => none
theorem kit_all {o : O1} {n : String} (h : isOp o = some n) (d : D) : ∃ b, do1 o d = some (.bool b) ∧ kitB (tyN d) n = some b := by
  cases o <;> simp only [isOp] at h <;> cases h <;> cases d <;> exact ⟨_, rfl, by simp only [tyN]; decide +kernel⟩
def rIsO (K : PySem.W.Frag) (o : O1) (n : String) : List V → Hp → VK → Prop := fun xs H Q => ∃ x, xs = [x, .ty n] ∧ S1 K o [x] H Q
theorem ok_is {o : O1} {n : String} (h : isOp o = some n) : CallR X (.builtin "isinstance") (rIsO X.K o n) := by
  intro pins s σ H xs us Q I r q
  obtain ⟨x, rfl, x', G, d, r', e, h1, h2, h4, h5⟩ := q
  cases e
  obtain ⟨b, hb, hk⟩ := kit_all h d
  rw [h4] at hb
  cases hb
  exact call_isi pins s σ H _ us Q I r ⟨x, .ty n, .type (tyN d), .type n, b, rfl, .ty n, tyx h1 h2, kit_ty hk, fin_bool h1 h5⟩
/-! ### is None, is True -/
theorem ok_isN : OpR X (compareOp .Is) (fun x y H Q => y = .non ∧ S1 X.K (.isC .none) [x] H Q) := by
  intro pins s σ H x y v u Q I rx ry q
  obtain ⟨rfl, x', G, d, r', e, h1, h2, h4, h5⟩ := q
  cases e
  refine op_isN pins s σ H x _ v u Q I rx ry ⟨rfl, ?_⟩
  cases d <;> simp only [do1, isConst, Option.map] at h4 <;> cases h4
  · rw [h2.none]; exact fin_bool h1 h5
  · rw [h2.bool]; exact fin_bool h1 h5
  · rw [h2.int]; exact fin_bool h1 h5
  · rw [h2.str.1]; exact fin_bool h1 h5
  · obtain ⟨a, vs, rfl, _⟩ := h2.list h1; exact fin_bool h1 h5
  · obtain ⟨a, vs, rfl, _⟩ := h2.tuple h1; exact fin_bool h1 h5
  · obtain ⟨a, vs, rfl, _⟩ := h2.dict h1; exact fin_bool h1 h5
theorem ok_notN : OpR X (compareOp .IsNot) (fun x y H Q => y = .non ∧ S1 X.K (.notC .none) [x] H Q) := by
  intro pins s σ H x y v u Q I rx ry q
  obtain ⟨rfl, x', G, d, r', e, h1, h2, h4, h5⟩ := q
  cases e
  refine op_notN pins s σ H x _ v u Q I rx ry ⟨rfl, ?_⟩
  cases d <;> simp only [do1, isConst, Option.map] at h4 <;> cases h4
  · rw [h2.none]; exact fin_bool h1 h5
  · rw [h2.bool]; exact fin_bool h1 h5
  · rw [h2.int]; exact fin_bool h1 h5
  · rw [h2.str.1]; exact fin_bool h1 h5
  · obtain ⟨a, vs, rfl, _⟩ := h2.list h1; exact fin_bool h1 h5
  · obtain ⟨a, vs, rfl, _⟩ := h2.tuple h1; exact fin_bool h1 h5
  · obtain ⟨a, vs, rfl, _⟩ := h2.dict h1; exact fin_bool h1 h5
theorem ok_isB {b : Bool} : OpR X (compareOp .Is) (fun x y H Q => y = .bl b ∧ S1 X.K (.isC (.bool b)) [x] H Q) := by
  intro pins s σ H x y v u Q I rx ry q
  obtain ⟨rfl, x', G, d, r', e, h1, h2, h4, h5⟩ := q
  cases e
  cases d <;> simp only [do1, isConst, Option.map] at h4 <;> cases h4
  exact op_isBl pins s σ H x _ v u Q I rx ry ⟨_, b, h2.bool, rfl, fin_bool h1 h5⟩
theorem ok_notB {b : Bool} : OpR X (compareOp .IsNot) (fun x y H Q => y = .bl b ∧ S1 X.K (.notC (.bool b)) [x] H Q) := by
  intro pins s σ H x y v u Q I rx ry q
  obtain ⟨rfl, x', G, d, r', e, h1, h2, h4, h5⟩ := q
  cases e
  cases d <;> simp only [do1, isConst, Option.map] at h4 <;> cases h4
  exact op_notBl pins s σ H x _ v u Q I rx ry ⟨_, b, h2.bool, rfl, fin_bool h1 h5⟩
/-! ### two arguments -/
def S2c (K : PySem.W.Frag) (o : O2) : List V → Hp → VK → Prop := fun xs H Q => ∃ x y, xs = [x, y] ∧ S2 K o x y H Q
theorem ok_max2 (hc : X.calm = true) : CallR X (.builtin "max") (S2c X.K .max2) := by
  intro pins s σ H xs us Q I r q
  obtain ⟨x, y, rfl, G, d, e, r', h1, h2, h3, h4, h5⟩ := q
  cases d <;> cases e <;> simp only [do2] at h4 <;> cases h4
  refine call_max2 hc pins s σ H _ us Q I r ⟨_, _, by rw [h2.int, h3.int], fin_int h1 h5⟩
theorem ok_min2 (hc : X.calm = true) : CallR X (.builtin "min") (S2c X.K .min2) := by
  intro pins s σ H xs us Q I r q
  obtain ⟨x, y, rfl, G, d, e, r', h1, h2, h3, h4, h5⟩ := q
  cases d <;> cases e <;> simp only [do2] at h4 <;> cases h4
  refine call_min2 hc pins s σ H _ us Q I r ⟨_, _, by rw [h2.int, h3.int], fin_int h1 h5⟩
theorem ok_index (hu : X.A.units + 65 < cLine) : MtR X "list.index" (fun x xs H Q => ∃ y, xs = [y] ∧ S2 X.K .index x y H Q) := by
  intro pins s σ H x xs v us Q I rx rxs q
  obtain ⟨y, rfl, G, d, e, r', h1, h2, h3, h4, h5⟩ := q
  cases d <;> simp only [do2] at h4 <;> first | cases h4 | skip
  rename_i ds
  split at h4
  · rename_i hk
    rw [Bool.and_eq_true] at hk
    obtain ⟨j, hj, rfl⟩ := Option.map_eq_some_iff.mp h4
    obtain ⟨a, vs, e0, _⟩ := h2.list h1
    obtain ⟨hj1, hj2, hj3⟩ := List.findIdx?_eq_some_iff_getElem.mp hj
    refine mt_indexD hu pins s σ H x _ v us Q I rx rxs ⟨a, y, e, ds, j, ds[j], e0, rfl, e0 ▸ (h2.dp h1 hk.1).1, (h3.dp h1 hk.2).1, ?_, ?_, List.getElem?_eq_getElem hj1, hj2, fun m z' hm hz => ?_, fin_int h1 h5⟩
    · exact (h2.dp h1 hk.1).2
    · exact (h3.dp h1 hk.2).2
    · obtain ⟨hm2, rfl⟩ := List.getElem?_eq_some_iff.mp hz
      have := hj3 m hm
      simpa using this
  · cases h4
/-! ### slices -/
theorem sIx_eq (n d : Nat) (v : Option Int) : HT.sIx n d v = Core.sIx n d v := by
  cases v <;> rfl
theorem RpAll.cut {vs : List V} {ds : List D} (r : RpAll K G vs ds) (lo hi : Option Int) : RpAll K G (cutV vs lo hi) (Core.cut ds lo hi) := by
  unfold cutV Core.cut
  rw [r.length, sIx_eq, sIx_eq]
  exact RpAll.take _ (RpAll.drop _ r)
theorem cut_len {α : Type} (xs : List α) (lo hi : Option Int) : (Core.cut xs lo hi).length ≤ xs.length := by
  unfold Core.cut
  rw [List.length_take, List.length_drop]
  omega
theorem cut_whole {α : Type} {xs : List α} {lo hi : Option Int} (h1 : HT.sIx xs.length 0 lo = 0) (h2 : HT.sIx xs.length xs.length hi = xs.length) : Core.cut xs lo hi = xs := by
  unfold Core.cut
  rw [← sIx_eq, ← sIx_eq, h1, h2, List.drop_zero, Nat.sub_zero, List.take_length]
/-- a slice at a value -/
def S3 (K : PySem.W.Frag) : V → Option Int → Option Int → Hp → VK → Prop := fun x lo hi H Q => ∃ G d r, Same G H ∧ Pk K G H x d ∧ (match d with | .list xs => some (.list (Core.cut xs lo hi)) | .tuple xs => some (.tuple (Core.cut xs lo hi)) | _ => none) = some r ∧
  ∀ v G' H', GF H G G' H' → Nw K G' H H' v r → Q v H'
theorem ok_slice : L2.SlR X (S3 X.K) := by
  intro pins s σ H x v vl vu lo hi sl Q I rx hs pl pu q
  obtain ⟨G, d, r, h1, h2, h3, q⟩ := q
  cases d <;> simp only at h3 <;> cases h3
  · obtain ⟨a, vs, rfl, e1, e2, e3⟩ := h2.list h1
    exact sl_list pins s σ H _ v vl vu lo hi sl Q I rx hs pl pu ⟨a, vs, rfl, e1, fun p hp => q _ _ _ (gf_new h1 hp) (nw_list h1 hp (Nat.le_trans (cut_len _ _ _) e3) (e2.cut lo hi))⟩
  · obtain ⟨a, vs, rfl, e1, g1, e2, e3⟩ := h2.tuple h1
    refine sl_tupA pins s σ H _ v vl vu lo hi sl Q I rx hs pl pu ⟨a, vs, rfl, e1, fun hw => ?_, fun _ p hp => q _ _ _ (gf_tup h1 hp) (nw_tup h1 hp (Nat.le_trans (cut_len _ _ _) e3) (e2.cut lo hi))⟩
    rw [e2.length] at hw
    refine q _ G H (GF.refl h1) ?_
    rw [cut_whole hw.1 hw.2]
    exact .tup g1 e3 e2
end
end Core
end

section
set_option Elab.async false
set_option linter.all false
set_option maxRecDepth 100000
set_option autoImplicit false
set_option maxHeartbeats 400000
/-! Soundness 8: what an evaluation's end says; calls. -/
namespace Core
open PySem PySem.Spec PyProof.Rows L2

/-! ### ends -/
/-- behind an evaluation: what holds of the answer, what is let out -/
def Fin {α : Type} (K : PySem.W.Frag) (T : List (Addr × Str)) (W : WX) (cl : Nat → Value) (B G : Hp) (σ : L2.St) (o : Out α) (N : α → Env → Hp → Hp → Prop) : Prop := match o with
  | .ok a env => ∀ G' H', GX B G G' → R K T B G' env σ H' → N a env G' H'
  | .ex x env => ∀ G' H', GX B G G' → R K T B G' env σ H' → W (cl x.cls) none σ H'
  | .bad => False
/-- an expression's reading, by the evaluator -/
def TEx (K : PySem.W.Frag) (T : List (Addr × Str)) (W : WX) (cl : Nat → Value) (ev : Env → Out RV) : TE := fun σ H Q => ∃ B G env, R K T B G env σ H ∧ Fin K T W cl B G σ (ev env) fun r env' G' H' => ∀ v, RVR K B G' env' σ H' v r → Q v H'
def TTx (K : PySem.W.Frag) (T : List (Addr × Str)) (W : WX) (cl : Nat → Value) (ev : Env → Out Bool) : TT := fun σ H Q => ∃ B G env, R K T B G env σ H ∧ Fin K T W cl B G σ (ev env) fun b env' G' H' => Q b H'
section
variable {K : PySem.W.Frag} {T : List (Addr × Str)} {W : WX} {cl : Nat → Value} {B G H : Hp} {σ : L2.St} {env : Env}
theorem Fin.mono {α : Type} {o : Out α} {N N' : α → Env → Hp → Hp → Prop} (h : Fin K T W cl B G σ o N) (m : ∀ a e G' H', GX B G G' → R K T B G' e σ H' → N a e G' H' → N' a e G' H') : Fin K T W cl B G σ o N' := by
  cases o with
  | ok a e => exact fun G' H' g S => m a e G' H' g S (h G' H' g S)
  | ex x e => exact h
  | bad => exact h
theorem Fin.grow {α : Type} {G1 : Hp} {o : Out α} {N : α → Env → Hp → Hp → Prop} (h : Fin K T W cl B G σ o N) (g : GX B G G1) : Fin K T W cl B G1 σ o N := by
  cases o with
  | ok a e => exact fun G' H' g' S => h G' H' (g.trans g') S
  | ex x e => exact fun G' H' g' S => h G' H' (g.trans g') S
  | bad => exact h
theorem Fin.bind {α β : Type} {o : Out α} {k : α → Env → Out β} {N : β → Env → Hp → Hp → Prop} (h : Fin K T W cl B G σ (o.bind k) N) : Fin K T W cl B G σ o fun a e G' H' => Fin K T W cl B G' σ (k a e) N := by
  cases o with
  | ok a e => exact fun G' H' g S => Fin.grow (o := k a e) h g
  | ex x e => exact h
  | bad => exact h
theorem Fin.weak {α : Type} {B1 : Hp} {o : Out α} {N : α → Env → Hp → Hp → Prop} (k : Same B B1) (h : Fin K T W cl B G σ o N) : Fin K T W cl B1 G σ o fun a e G' H' => GX B G G' ∧ R K T B G' e σ H' ∧ N a e G' H' := by
  cases o with
  | ok a e => exact fun G' H' g S => ⟨g.weak k, S.weak k, h G' H' (g.weak k) (S.weak k)⟩
  | ex x e => exact fun G' H' g S => h G' H' (g.weak k) (S.weak k)
  | bad => exact h
/-- at an answer -/
theorem Fin.at {α : Type} {a : α} {N : α → Env → Hp → Hp → Prop} (h : Fin K T W cl B G σ (.ok a env) N) (S : R K T B G env σ H) : N a env G H := h G H (GX.refl B G) S
theorem TEx.of {ev : Env → Out RV} {Q : VK} (S : R K T B G env σ H) (h : Fin K T W cl B G σ (ev env) fun r e G' H' => ∀ v, RVR K B G' e σ H' v r → Q v H') : TEx K T W cl ev σ H Q := ⟨B, G, env, S, h⟩
theorem TEx.one {ev : Env → Out RV} {β : Type} {k : RV → Env → Out β} {N : β → Env → Hp → Hp → Prop} {Q : VK} (S : R K T B G env σ H) (h : Fin K T W cl B G σ ((ev env).bind k) N)
    (q : ∀ x r e G1 H1, GX B G G1 → R K T B G1 e σ H1 → RVR K B G1 e σ H1 x r → Fin K T W cl B G1 σ (k r e) N → Q x H1) : TEx K T W cl ev σ H Q :=
  .of S (h.bind.mono fun r e G1 H1 g S1 h1 v rv => q v r e G1 H1 g S1 rv h1)
theorem RVR.weak {B1 : Hp} {v : V} {r : RV} (k : Same B B1) (rs : RVR K B1 G env σ H v r) : RVR K B G env σ H v r := by
  cases r with
  | f d => exact rs
  | b i => exact rs
  | n d =>
    cases d with
    | list xs => obtain ⟨z, a, vs, e1, e2, e3, e4, e5, e6⟩ := rs; exact ⟨z, a, vs, e1, e2, e3, none_of_same k e4, e5, e6⟩
    | dict xs => obtain ⟨a, vs, e1, e2, e3, e4, e5, e6⟩ := rs; exact ⟨a, vs, e1, e2, e3, none_of_same k e4, e5, e6⟩
    | none => exact rs.elim
    | bool _ => exact rs.elim
    | int _ => exact rs.elim
    | str _ => exact rs.elim
    | tuple _ => exact rs.elim
theorem TEx.two {ev ev2 : Env → Out RV} {β : Type} {k : RV → RV → Env → Out β} {N : β → Env → Hp → Hp → Prop} {Q : V → VK} (S : R K T B G env σ H) (h : Fin K T W cl B G σ ((ev env).bind fun r e => (ev2 e).bind fun s e2 => k r s e2) N)
    (q : ∀ x y r s e G2 H2, GX B G G2 → R K T B G2 e σ H2 → RVR K B G2 e σ H2 x r → RVR K B G2 e σ H2 y s → Fin K T W cl B G2 σ (k r s e) N → Q x y H2) : TEx K T W cl ev σ H fun x H1 => TEx K T W cl ev2 σ H1 fun y H2 => Q x y H2 := by
  refine TEx.one S h fun x r e G1 H1 g S1 rv h1 => ?_
  obtain ⟨B1, k1, S1', hold⟩ := rv.held S1
  exact .of S1' ((h1.bind.weak k1).mono fun s e2 G2 H2 g2 S2 ⟨g3, S3, h2⟩ y rs => q x y r s e2 G2 H2 (g.trans g3) S3 (hold e2 G2 H2 g2 S2) (rs.weak k1) h2)
/-- an operation's result as an expression's -/
theorem rvr_mk {G1 H1 : Hp} {v : V} {d : D} (S : R K T B G env σ H) (g : GF H G G1 H1) (n : Nw K G1 H H1 v d) : RVR K B G1 env σ H1 v (mk d) := by
  have fresh : ∀ a : Addr, H a = none → B a = none ∧ ∀ i, ¬ ownAt env σ i a := fun a e => ⟨none_of_same S.bh e, fun i o => by
    obtain ⟨_, _, u, z, _⟩ := S.own o
    rw [e] at z; cases z⟩
  cases d with
  | list xs =>
    obtain ⟨z, a, vs, e1, e2, e3, e4, e5⟩ := n
    exact ⟨z, a, vs, e1, e2, e4, (fresh a e3).1, e5, (fresh a e3).2⟩
  | dict xs =>
    obtain ⟨a, vs, e1, e2, e3, e4, e5⟩ := n
    exact ⟨a, vs, e1, e2, e4, (fresh a e3).1, e5, (fresh a e3).2⟩
  | none => exact n
  | bool _ => exact n
  | int _ => exact n
  | str _ => exact n
  | tuple _ => exact n
theorem opt_cases {α β : Type} {o : Option α} {f : α → Out β} (P : Out β → Prop) (h : P (match o with | some a => f a | none => .bad)) (hb : ¬ P .bad) : ∃ a, o = some a ∧ P (f a) := by
  cases o with
  | none => exact absurd h hb
  | some a => exact ⟨a, rfl, h⟩
/-- an operation on one value -/
theorem TEx.op1 {o : O1} {ev : Env → Out RV} {Q : VK} (h : TEx K T W cl (fun env => (ev env).bind fun r env => match (peek r env).bind (do1 o) with | some d => .ok (mk d) env | none => .bad) σ H Q) : TEx K T W cl ev σ H fun x H1 => S1 K o [x] H1 Q := by
  obtain ⟨B, G, env, S, h⟩ := h
  refine TEx.one S h fun x r e G1 H1 g S1 rv h1 => ?_
  cases e1 : peek r e with
  | none => rw [e1] at h1; exact h1.elim
  | some d =>
    rw [e1] at h1
    cases e2 : do1 o d with
    | none =>
      have h1 : Fin K T W cl B G1 σ (match do1 o d with | some d => .ok (mk d) e | none => .bad) _ := h1
      rw [e2] at h1
      exact h1.elim
    | some d' =>
      have h1 : Fin K T W cl B G1 σ (match do1 o d with | some d => .ok (mk d) e | none => .bad) _ := h1
      rw [e2] at h1
      exact ⟨x, G1, d, d', rfl, S1.gh, rv.pk S1 e1, e2, fun v G' H' gf nw => h1 G' H' (gf.gx S1.bh) (S1.laid gf) v (rvr_mk S1 gf nw)⟩
/-- an operation on two values -/
theorem TEx.op2 {o : O2} (ho : o ≠ .idx) {ev ev2 : Env → Out RV} {Q : VK} (h : TEx K T W cl (fun env => (ev env).bind fun r env => (ev2 env).bind fun s env => match peek r env, peek s env with
    | some x, some y => match do2 o x y with
      | some d => .ok (if o = .idx then .f d else mk d) env
      | none => .bad
    | _, _ => .bad) σ H Q) : TEx K T W cl ev σ H fun x H1 => TEx K T W cl ev2 σ H1 fun y H2 => S2 K o x y H2 Q := by
  obtain ⟨B, G, env, S, h⟩ := h
  refine TEx.two S h fun x y r s e G2 H2 g S2 rv rs h2 => ?_
  cases e1 : peek r e with
  | none => simp only [e1] at h2; exact h2.elim
  | some d =>
    cases e2 : peek s e with
    | none => simp only [e1, e2] at h2; exact h2.elim
    | some d2 =>
      cases e3 : do2 o d d2 with
      | none => simp only [e1, e2, e3] at h2; exact h2.elim
      | some d' =>
        simp only [e1, e2, e3, if_neg ho] at h2
        exact ⟨G2, d, d2, d', S2.gh, rv.pk S2 e1, rs.pk S2 e2, e3, fun v G' H' gf nw => h2 G' H' (gf.gx S2.bh) (S2.laid gf) v (rvr_mk S2 gf nw)⟩
theorem TEx.idx {ev ev2 : Env → Out RV} {Q : VK} (h : TEx K T W cl (fun env => (ev env).bind fun r env => (ev2 env).bind fun s env => match peek r env, peek s env with
    | some x, some y => match do2 .idx x y with
      | some d => .ok (if O2.idx = .idx then .f d else mk d) env
      | none => .bad
    | _, _ => .bad) σ H Q) : TEx K T W cl ev σ H fun x H1 => TEx K T W cl ev2 σ H1 fun y H2 => S2i K x y H2 Q := by
  obtain ⟨B, G, env, S, h⟩ := h
  refine TEx.two S h fun x y r s e G2 H2 g S2 rv rs h2 => ?_
  cases e1 : peek r e with
  | none => simp only [e1] at h2; exact h2.elim
  | some d =>
    cases e2 : peek s e with
    | none => simp only [e1, e2] at h2; exact h2.elim
    | some d2 =>
      cases e3 : do2 .idx d d2 with
      | none => simp only [e1, e2, e3] at h2; exact h2.elim
      | some d' =>
        simp only [e1, e2, e3, if_true] at h2
        exact ⟨G2, d, d2, d', S2.gh, rv.pk S2 e1, rs.pk S2 e2, e3, fun v hv => h2 G2 H2 (GX.refl B G2) S2 v hv⟩
/-- a test from a value -/
theorem TTx.tex {ev : Env → Out RV} {Q : Bool → Hp → Prop} (h : TTx K T W cl (fun env => (ev env).bind fun r env => match peek r env with | some (.bool b) => .ok b env | _ => .bad) σ H Q) : TEx K T W cl ev σ H fun x H' => ∃ k, x = .bl k ∧ Q k H' := by
  obtain ⟨B, G, env, S, h⟩ := h
  refine TEx.one S h fun x r e G1 H1 g S1 rv h1 => ?_
  cases e1 : peek r e with
  | none => simp only [e1] at h1; exact h1.elim
  | some d =>
    cases d <;> simp only [e1] at h1 <;> first | exact h1.elim | skip
    exact ⟨_, (rv.pk S1 e1).bool, h1.at S1⟩
/-- a value from a test, where the evaluator goes on with the bool -/
theorem TEx.boolAt {ev : Env → Out RV} {β : Type} {k : Bool → Env → Out β} {N : β → Env → Hp → Hp → Prop} {Q : VK} (S : R K T B G env σ H) (h : Fin K T W cl B G σ ((ev env).bind fun r env => match peek r env with | some (.bool true) => k true env | some (.bool false) => k false env | _ => .bad) N)
    (q : ∀ b e G1 H1, GX B G G1 → R K T B G1 e σ H1 → Fin K T W cl B G1 σ (k b e) N → Q (.bl b) H1) : TEx K T W cl ev σ H Q := by
  refine TEx.one S h fun x r e G1 H1 g S1 rv h1 => ?_
  cases e1 : peek r e with
  | none => simp only [e1] at h1; exact h1.elim
  | some d =>
    cases d <;> simp only [e1] at h1 <;> first | exact h1.elim | skip
    rename_i b
    rw [(rv.pk S1 e1).bool]
    cases b with
    | true => exact q true e G1 H1 g S1 h1
    | false => exact q false e G1 H1 g S1 h1
theorem TTx.boolAt {ev : Env → Out RV} {β : Type} {k : Bool → Env → Out β} {N : β → Env → Hp → Hp → Prop} {Q : Bool → Hp → Prop} (S : R K T B G env σ H) (h : Fin K T W cl B G σ ((ev env).bind fun r env => match peek r env with | some (.bool true) => k true env | some (.bool false) => k false env | _ => .bad) N)
    (q : ∀ b e G1 H1, GX B G G1 → R K T B G1 e σ H1 → Fin K T W cl B G1 σ (k b e) N → Q b H1) : TTx K T W cl (fun env => (ev env).bind fun r env => match peek r env with | some (.bool b) => .ok b env | _ => .bad) σ H Q := by
  refine ⟨B, G, env, S, ?_⟩
  show Fin K T W cl B G σ ((ev env).bind fun r env => match peek r env with | some (.bool b) => .ok b env | _ => .bad) _
  cases e0 : ev env with
  | bad => rw [e0] at h; exact h.elim
  | ex x e => rw [e0] at h; exact h
  | ok r e =>
    rw [e0] at h
    have h : Fin K T W cl B G σ (match peek r e with | some (.bool true) => k true e | some (.bool false) => k false e | _ => .bad) N := h
    show Fin K T W cl B G σ (match peek r e with | some (.bool b) => .ok b e | _ => .bad) _
    cases e1 : peek r e with
    | none => simp only [e1] at h; exact h.elim
    | some d =>
      cases d <;> simp only [e1] at h <;> first | exact h.elim | skip
      rename_i b
      intro G' H' g S'
      cases b with
      | true => exact q true e G' H' g S' (Fin.grow h g)
      | false => exact q false e G' H' g S' (Fin.grow h g)
end
end Core
end

section
set_option Elab.async false
set_option linter.all false
set_option maxRecDepth 100000
set_option autoImplicit false
set_option maxHeartbeats 400000
/-! Soundness 8b: calls: the state of the def that is called, and the caller's state behind. -/
namespace Core
open PySem PySem.Spec PyProof.Rows L2
section
variable {K : PySem.W.Frag} {T : List (Addr × Str)} {B G H : Hp} {σ : L2.St} {env : Env}
/-- arguments -/
inductive AR (K : PySem.W.Frag) (G : Hp) (σ : L2.St) : List V → List RV → Prop
  | nil : AR K G σ [] []
  | f {v : V} {d : D} {vs : List V} {rs : List RV} : Rp K G v d → AR K G σ vs rs → AR K G σ (v :: vs) (.f d :: rs)
  | b {v : V} {i : Nat} {vs : List V} {rs : List RV} : σ[i]? = some (some v) → AR K G σ vs rs → AR K G σ (v :: vs) (.b i :: rs)
theorem AR.mono {G' : Hp} (e : Same G G') {vs : List V} {rs : List RV} (h : AR K G σ vs rs) : AR K G' σ vs rs := by
  induction h with
  | nil => exact .nil
  | f a _ ih => exact .f (Rp.mono e _ _ a) ih
  | b a _ ih => exact .b a ih
theorem AR.length {vs : List V} {rs : List RV} (h : AR K G σ vs rs) : vs.length = rs.length := by
  induction h with
  | nil => rfl
  | f _ _ ih => rw [List.length_cons, List.length_cons, ih]
  | b _ _ ih => rw [List.length_cons, List.length_cons, ih]
theorem AR_b {vs : List V} {rs : List RV} (a : AR K G σ vs rs) : ∀ {k i : Nat}, rs[k]? = some (RV.b i) → ∃ v, vs[k]? = some v ∧ σ[i]? = some (some v) := by
  induction a with
  | nil => intro k i h; simp at h
  | f _ _ ih =>
    intro k i h
    cases k with
    | zero => cases h
    | succ k => exact ih h
  | b hd _ ih =>
    intro k i h
    cases k with
    | zero => cases h; exact ⟨_, rfl, hd⟩
    | succ k => exact ih h
theorem pass_len : ∀ {rs : List RV} {ss : List Sl}, passArgs env rs = some ss → ss.length = rs.length
  | [], ss, h => by cases h; rfl
  | .f d :: r, ss, h => by
    obtain ⟨s', h1, rfl⟩ := Option.map_eq_some_iff.mp h
    rw [List.length_cons, List.length_cons, pass_len h1]
  | .n d :: r, ss, h => by
    obtain ⟨s', h1, rfl⟩ := Option.map_eq_some_iff.mp h
    rw [List.length_cons, List.length_cons, pass_len h1]
  | .b i :: r, ss, h => by
    unfold passArgs at h
    split at h
    · cases h
    · rename_i h1 h2
      cases h
      rw [List.length_cons, List.length_cons, pass_len h2]
    · cases h
theorem pass_b : ∀ {rs : List RV} {ss : List Sl}, passArgs env rs = some ss → ∀ (k i : Nat), rs[k]? = some (RV.b i) → ∃ s, ss[k]? = some s ∧ env[i]? = some s
  | [], ss, h, k, i, e => by simp at e
  | .f d :: r, ss, h, k, i, e => by
    obtain ⟨s', h1, rfl⟩ := Option.map_eq_some_iff.mp h
    cases k with
    | zero => cases e
    | succ k => exact pass_b h1 k i e
  | .n d :: r, ss, h, k, i, e => by
    obtain ⟨s', h1, rfl⟩ := Option.map_eq_some_iff.mp h
    cases k with
    | zero => cases e
    | succ k => exact pass_b h1 k i e
  | .b j :: r, ss, h, k, i, e => by
    unfold passArgs at h
    split at h
    · cases h
    · rename_i h1 h2
      cases h
      cases k with
      | zero => cases e; exact ⟨_, rfl, h1⟩
      | succ k => exact pass_b h2 k i e
    · cases h
theorem pass_f {vs : List V} {rs : List RV} (a : AR K G σ vs rs) : ∀ {ss : List Sl}, passArgs env rs = some ss → ∀ (k : Nat) (s : Sl), ss[k]? = some s → (∃ i : Nat, rs[k]? = some (RV.b i) ∧ env[i]? = some s ∧ ∃ v, vs[k]? = some v ∧ σ[i]? = some (some v)) ∨ ∃ (d : D) (v : V), s = Sl.v d ∧ vs[k]? = some v ∧ Rp K G v d := by
  induction a with
  | nil => intro ss h k s e; cases h; simp at e
  | f hd t ih =>
    intro ss h k s e
    obtain ⟨s', h1, rfl⟩ := Option.map_eq_some_iff.mp h
    cases k with
    | zero => cases e; exact .inr ⟨_, _, rfl, rfl, hd⟩
    | succ k => exact ih h1 k s e
  | b hd t ih =>
    intro ss h k s e
    unfold passArgs at h
    split at h
    · cases h
    · rename_i h1 h2
      cases h
      cases k with
      | zero => cases e; exact .inl ⟨_, rfl, h1, _, rfl, hd⟩
      | succ k => exact ih h2 k s e
    · cases h
theorem mem_bors : ∀ {rs : List RV} {i : Nat}, i ∈ bors env rs ↔ (∃ k : Nat, rs[k]? = some (RV.b i)) ∧ isOwn (env.getD i .no) = true
  | [], i => by simp [bors]
  | .f d :: r, i => by
    unfold bors
    rw [mem_bors (rs := r)]
    constructor
    · rintro ⟨⟨k, h⟩, h2⟩; exact ⟨⟨k + 1, h⟩, h2⟩
    · rintro ⟨⟨k, h⟩, h2⟩
      cases k with
      | zero => cases h
      | succ k => exact ⟨⟨k, h⟩, h2⟩
  | .n d :: r, i => by
    unfold bors
    rw [mem_bors (rs := r)]
    constructor
    · rintro ⟨⟨k, h⟩, h2⟩; exact ⟨⟨k + 1, h⟩, h2⟩
    · rintro ⟨⟨k, h⟩, h2⟩
      cases k with
      | zero => cases h
      | succ k => exact ⟨⟨k, h⟩, h2⟩
  | .b j :: r, i => by
    unfold bors
    by_cases hj : isOwn (env.getD j .no) = true
    · rw [if_pos hj, List.mem_cons, mem_bors (rs := r)]
      constructor
      · rintro (rfl | ⟨⟨k, h⟩, h2⟩)
        · exact ⟨⟨0, rfl⟩, hj⟩
        · exact ⟨⟨k + 1, h⟩, h2⟩
      · rintro ⟨⟨k, h⟩, h2⟩
        cases k with
        | zero => cases h; exact .inl rfl
        | succ k => exact .inr ⟨⟨k, h⟩, h2⟩
    · rw [if_neg hj, mem_bors (rs := r)]
      constructor
      · rintro ⟨⟨k, h⟩, h2⟩; exact ⟨⟨k + 1, h⟩, h2⟩
      · rintro ⟨⟨k, h⟩, h2⟩
        cases k with
        | zero => cases h; exact absurd h2 hj
        | succ k => exact ⟨⟨k, h⟩, h2⟩
theorem dup_inj : ∀ {rs : List RV}, dupFree (bors env rs) = true → ∀ (k l i : Nat), rs[k]? = some (RV.b i) → rs[l]? = some (RV.b i) → isOwn (env.getD i .no) = true → k = l
  | [], _, k, l, i, h, _, _ => by simp at h
  | .f d :: r, hd, k, l, i, h1, h2, ho => by
    unfold bors at hd
    cases k with
    | zero => cases h1
    | succ k => cases l with
      | zero => cases h2
      | succ l => rw [dup_inj hd k l i h1 h2 ho]
  | .n d :: r, hd, k, l, i, h1, h2, ho => by
    unfold bors at hd
    cases k with
    | zero => cases h1
    | succ k => cases l with
      | zero => cases h2
      | succ l => rw [dup_inj hd k l i h1 h2 ho]
  | .b j :: r, hd, k, l, i, h1, h2, ho => by
    unfold bors at hd
    by_cases hj : isOwn (env.getD j .no) = true
    · rw [if_pos hj] at hd
      unfold dupFree at hd
      rw [Bool.and_eq_true] at hd
      have hn : j ∉ bors env r := by
        have := hd.1
        simpa using this
      cases k with
      | zero =>
        cases h1
        cases l with
        | zero => rfl
        | succ l => exact absurd (mem_bors.mpr ⟨⟨l, h2⟩, ho⟩) hn
      | succ k =>
        cases l with
        | zero => cases h2; exact absurd (mem_bors.mpr ⟨⟨k, h1⟩, ho⟩) hn
        | succ l => rw [dup_inj hd.2 k l i h1 h2 ho]
    · rw [if_neg hj] at hd
      cases k with
      | zero => cases h1; exact absurd ho hj
      | succ k => cases l with
        | zero => cases h2; exact absurd ho hj
        | succ l => rw [dup_inj hd k l i h1 h2 ho]
theorem back_len : ∀ (rs : List RV) (ps : List Sl) (env : Env), (backArgs rs ps env).length = env.length
  | [], ps, env => by cases ps <;> rfl
  | .f d :: r, [], env => rfl
  | .n d :: r, [], env => rfl
  | .b i :: r, [], env => rfl
  | .f d :: r, s :: ss, env => back_len r ss env
  | .n d :: r, s :: ss, env => back_len r ss env
  | .b i :: r, s :: ss, env => by
    show (backArgs r ss (env.set i s)).length = _
    rw [back_len r ss, List.length_set]
theorem back_get : ∀ (rs : List RV) (ps : List Sl) (env : Env) (i : Nat) (s : Sl), ps.length = rs.length → (backArgs rs ps env)[i]? = some s → (∃ k : Nat, rs[k]? = some (RV.b i) ∧ ps[k]? = some s) ∨ (env[i]? = some s ∧ ∀ k : Nat, rs[k]? ≠ some (RV.b i))
  | [], ps, env, i, s, _, h => .inr ⟨by cases ps <;> exact h, fun k => by simp⟩
  | .f d :: r, [], env, i, s, hl, h => by simp at hl
  | .n d :: r, [], env, i, s, hl, h => by simp at hl
  | .b j :: r, [], env, i, s, hl, h => by simp at hl
  | .f d :: r, p :: ps, env, i, s, hl, h => by
    rcases back_get r ps env i s (by simpa using hl) h with ⟨k, h1, h2⟩ | ⟨h1, h2⟩
    · exact .inl ⟨k + 1, h1, h2⟩
    · exact .inr ⟨h1, fun k => by
        cases k with
        | zero => simp
        | succ k => exact h2 k⟩
  | .n d :: r, p :: ps, env, i, s, hl, h => by
    rcases back_get r ps env i s (by simpa using hl) h with ⟨k, h1, h2⟩ | ⟨h1, h2⟩
    · exact .inl ⟨k + 1, h1, h2⟩
    · exact .inr ⟨h1, fun k => by
        cases k with
        | zero => simp
        | succ k => exact h2 k⟩
  | .b j :: r, p :: ps, env, i, s, hl, h => by
    rcases back_get r ps (env.set j p) i s (by simpa using hl) h with ⟨k, h1, h2⟩ | ⟨h1, h2⟩
    · exact .inl ⟨k + 1, h1, h2⟩
    · by_cases e : j = i
      · subst e
        by_cases hj : j < env.length
        · rw [List.getElem?_set_self hj] at h1
          exact .inl ⟨0, rfl, h1⟩
        · rw [List.getElem?_eq_none (by rw [List.length_set]; omega)] at h1
          cases h1
      · rw [List.getElem?_set_ne e] at h1
        refine .inr ⟨h1, fun k => ?_⟩
        cases k with
        | zero => intro z; cases z; exact e rfl
        | succ k => exact h2 k
theorem getD_of {i : Nat} {s : Sl} (h : env[i]? = some s) : env.getD i .no = s := by
  rw [List.getD_eq_getElem?_getD, h]; rfl
/-- the def's state at a call; the caller's behind it -/
theorem call_core {vs : List V} {rs : List RV} {ss : List Sl} (S : R K T B G env σ H) (a : AR K G σ vs rs) (hp : passArgs env rs = some ss) (hd : dupFree (bors env rs) = true) :
    ∃ B2, Same B B2 ∧ R K T B2 G ss (vs.map some) H ∧ ∀ ps G' H', GX B2 G G' → R K T B2 G' ps (vs.map some) H' → GX B G G' ∧ R K T B G' (backArgs rs ps env) σ H' ∧
      ∀ v d (new : Bool), RVR K B2 G' ps (vs.map some) H' v (if new then .n d else .f d) → RVR K B G' (backArgs rs ps env) σ H' v (if new then .n d else .f d) := by
  classical
  have hsl : ss.length = rs.length := pass_len hp
  have hvl : vs.length = rs.length := a.length
  -- what the caller keeps for itself
  let B2 : Hp := fun b => if ∃ i, ownAt env σ i b ∧ i ∉ bors env rs then H b else B b
  have kept : ∀ {i b}, ownAt env σ i b → i ∉ bors env rs → B2 b = H b := fun {i b} o n => if_pos ⟨i, o, n⟩
  have other : ∀ {b}, (¬ ∃ i, ownAt env σ i b ∧ i ∉ bors env rs) → B2 b = B b := fun {b} n => if_neg n
  have k2 : Same B B2 := fun b o e => by
    by_cases z : ∃ i, ownAt env σ i b ∧ i ∉ bors env rs
    · obtain ⟨i, o', _⟩ := z
      rw [(S.own o').2.1] at e; cases e
    · rw [other z]; exact e
  have bh : Same B2 H := fun b o e => by
    by_cases z : ∃ i, ownAt env σ i b ∧ i ∉ bors env rs
    · obtain ⟨i, o', n⟩ := z
      rw [kept o' n] at e; exact e
    · rw [other z] at e; exact S.bh _ _ e
  -- a borrowed list is not kept
  have lent : ∀ {i b}, ownAt env σ i b → i ∈ bors env rs → B2 b = none := fun {i b} o m => by
    have z : ¬ ∃ j, ownAt env σ j b ∧ j ∉ bors env rs := fun ⟨j, o', n⟩ => by
      have e := S.apart i j b o o'
      subst e
      exact n m
    rw [other z]; exact (S.own o).2.1
  have tabB : ∀ p ∈ T, B2 p.1 = none := fun p hp => by
    obtain ⟨ps, e⟩ := S.tab.at hp
    have z : ¬ ∃ j, ownAt env σ j p.1 ∧ j ∉ bors env rs := fun ⟨j, o', n⟩ => by
      obtain ⟨_, _, u, e1, e2⟩ := S.own o'
      rw [e] at e1
      cases e1
      rcases e2 with ⟨_, z⟩ | ⟨_, z⟩ <;> cases z
    rw [other z]; exact S.tab.b p hp
  have sig : ∀ k v, vs[k]? = some v → (vs.map some)[k]? = some (some v) := fun k v e => by rw [List.getElem?_map, e]; rfl
  have sigI : ∀ k v, (vs.map some)[k]? = some (some v) → vs[k]? = some v := fun k v e => by
    rw [List.getElem?_map] at e
    obtain ⟨w, e1, e2⟩ := Option.map_eq_some_iff.mp e
    cases e2; exact e1
  -- an own slot of the def is a borrowed one
  have ownC : ∀ {k b}, ownAt ss (vs.map some) k b → ∃ i : Nat, rs[k]? = some (RV.b i) ∧ ownAt env σ i b ∧ i ∈ bors env rs := fun {k b} o => by
    obtain ⟨⟨s, e, ho⟩, hb⟩ := o
    rcases pass_f a hp k s e with ⟨i, h1, h2, v, h3, h4⟩ | ⟨d, v, rfl, _, _⟩
    · have e5 := sigI _ _ hb
      rw [h3] at e5; cases e5
      exact ⟨i, h1, ⟨⟨s, h2, ho⟩, h4⟩, mem_bors.mpr ⟨⟨k, h1⟩, by rw [getD_of h2]; exact ho⟩⟩
    · cases ho
  refine ⟨B2, k2, ⟨⟨S.tab.tabs, tabB, S.tab.g, fun b ps e => by
      by_cases z : ∃ i, ownAt env σ i b ∧ i ∉ bors env rs
      · obtain ⟨i, o', n⟩ := z
        rw [kept o' n] at e
        obtain ⟨_, _, u, e1, e2⟩ := S.own o'
        rw [e] at e1
        cases e1
        rcases e2 with ⟨_, z⟩ | ⟨_, z⟩ <;> cases z
      · rw [other z] at e; exact S.tab.bn b ps e, S.tab.gn⟩, by rw [List.length_map, hsl, hvl], S.gh, bh, fun k s e => ?_, fun k l b o1 o2 => ?_⟩, fun ps G' H' g S' => ?_⟩
  · rcases pass_f a hp k s e with ⟨i, h1, h2, v, h3, h4⟩ | ⟨d, v, rfl, h3, h4⟩
    · have z := S.slot i s h2
      cases s with
      | no => trivial
      | v d => obtain ⟨w, e1, e2⟩ := z; rw [h4] at e1; cases e1; exact ⟨v, sig _ _ h3, e2⟩
      | o xs =>
        obtain ⟨zl, b, ws, e1, e2, e3, e4, e5⟩ := z
        rw [h4] at e1; cases e1
        exact ⟨zl, b, ws, sig _ _ h3, e2, e3, lent ⟨⟨_, h2, rfl⟩, h4⟩ (mem_bors.mpr ⟨⟨k, h1⟩, by rw [getD_of h2]; rfl⟩), e5⟩
      | q xs =>
        obtain ⟨b, ws, e1, e2, e3, e4, e5⟩ := z
        rw [h4] at e1; cases e1
        exact ⟨b, ws, sig _ _ h3, e2, e3, lent ⟨⟨_, h2, rfl⟩, h4⟩ (mem_bors.mpr ⟨⟨k, h1⟩, by rw [getD_of h2]; rfl⟩), e5⟩
    · exact ⟨v, sig _ _ h3, h4⟩
  · obtain ⟨i, h1, o1', m1⟩ := ownC o1
    obtain ⟨j, h2, o2', m2⟩ := ownC o2
    have e := S.apart i j b o1' o2'
    subst e
    exact dup_inj hd k l i h1 h2 (mem_bors.mp m1).2
  · have hpl : ps.length = rs.length := by rw [S'.len, List.length_map, hvl]
    have gx : GX B G G' := g.weak k2
    -- the value of a borrowed slot
    have val : ∀ {k i : Nat}, rs[k]? = some (RV.b i) → ∃ v, vs[k]? = some v ∧ σ[i]? = some (some v) := fun {k i} h1 => AR_b a h1
    -- a slot of the caller that was not lent
    have old : ∀ {i b}, ownAt env σ i b → (∀ k, rs[k]? ≠ some (RV.b i)) → B2 b = H b ∧ ∃ o, H b = some o := fun {i b} o n => by
      refine ⟨kept o fun m => ?_, ?_⟩
      · obtain ⟨⟨k, h⟩, _⟩ := mem_bors.mp m
        exact n k h
      · obtain ⟨_, _, u, z, _⟩ := S.own o
        exact ⟨u, z⟩
    have ownB : ∀ {i b}, ownAt (backArgs rs ps env) σ i b → (∃ k : Nat, rs[k]? = some (RV.b i) ∧ ownAt ps (vs.map some) k b) ∨ (ownAt env σ i b ∧ ∀ k : Nat, rs[k]? ≠ some (RV.b i)) := fun {i b} o => by
      obtain ⟨⟨s, e, ho⟩, hb⟩ := o
      rcases back_get rs ps env i s hpl e with ⟨k, h1, h2⟩ | ⟨h1, h2⟩
      · obtain ⟨v, h3, h4⟩ := val h1
        rw [hb] at h4; cases h4
        exact .inl ⟨k, h1, ⟨s, h2, ho⟩, sig _ _ h3⟩
      · exact .inr ⟨⟨⟨s, h1, ho⟩, hb⟩, h2⟩
    -- what is kept is still there and unknown
    have stay : ∀ {i b}, ownAt env σ i b → (∀ k, rs[k]? ≠ some (RV.b i)) → H' b = H b ∧ G' b = none := fun {i b} o n => by
      obtain ⟨e, u, hu⟩ := old o n
      refine ⟨by rw [hu]; exact S'.bh _ _ (e.trans hu), ?_⟩
      cases z : G' b with
      | none => rfl
      | some w =>
        rcases g.new b w z with z | z
        · rw [(S.own o).1] at z; cases z
        · rw [e, hu] at z; cases z
    refine ⟨gx, ⟨S'.tab.weak k2, by rw [back_len]; exact S.len, S'.gh, k2.trans S'.bh, fun i s e => ?_, fun i j b o1 o2 => ?_⟩, fun v d new h => ?_⟩
    · rcases back_get rs ps env i s hpl e with ⟨k, h1, h2⟩ | ⟨h1, h2⟩
      · obtain ⟨v, h3, h4⟩ := val h1
        have z := S'.slot k s h2
        cases s with
        | no => trivial
        | v d => obtain ⟨w, e1, e2⟩ := z; rw [sig _ _ h3] at e1; cases e1; exact ⟨v, h4, e2⟩
        | o xs =>
          obtain ⟨zl, b, ws, e1, e2, e3, e4, e5⟩ := z
          rw [sig _ _ h3] at e1; cases e1
          exact ⟨zl, b, ws, h4, e2, e3, none_of_same k2 e4, e5⟩
        | q xs =>
          obtain ⟨b, ws, e1, e2, e3, e4, e5⟩ := z
          rw [sig _ _ h3] at e1; cases e1
          exact ⟨b, ws, h4, e2, e3, none_of_same k2 e4, e5⟩
      · have z := S.slot i s h1
        cases s with
        | no => trivial
        | v d => obtain ⟨w, e1, e2⟩ := z; exact ⟨w, e1, Rp.mono gx.same _ _ e2⟩
        | o xs =>
          obtain ⟨zl, b, ws, e1, e2, e3, e4, e5⟩ := z
          obtain ⟨y1, y2⟩ := stay ⟨⟨_, h1, rfl⟩, e1⟩ h2
          exact ⟨zl, b, ws, e1, y1.trans e2, y2, e4, RpAll.mono gx.same _ _ e5⟩
        | q xs =>
          obtain ⟨b, ws, e1, e2, e3, e4, e5⟩ := z
          obtain ⟨y1, y2⟩ := stay ⟨⟨_, h1, rfl⟩, e1⟩ h2
          exact ⟨b, ws, e1, y1.trans e2, y2, e4, RpKv.mono gx.same _ _ e5⟩
    · have clash : ∀ {i k b}, ownAt env σ i b → (∀ k, rs[k]? ≠ some (RV.b i)) → ownAt ps (vs.map some) k b → False := fun {i k b} o n o' => by
        obtain ⟨e, u, hu⟩ := old o n
        have z := (S'.own o').2.1
        rw [e, hu] at z; cases z
      rcases ownB o1 with ⟨k, h1, p1⟩ | ⟨p1, n1⟩ <;> rcases ownB o2 with ⟨l, h2, p2⟩ | ⟨p2, n2⟩
      · have e := S'.apart k l b p1 p2
        subst e
        rw [h1] at h2; cases h2; rfl
      · exact (clash p2 n2 p1).elim
      · exact (clash p1 n1 p2).elim
      · exact S.apart i j b p1 p2
    · have away : ∀ {b}, G' b = none → B2 b = none → (∀ k, ¬ ownAt ps (vs.map some) k b) → ∀ i, ¬ ownAt (backArgs rs ps env) σ i b := fun {b} e1 e2 n i o => by
        rcases ownB o with ⟨k, _, p⟩ | ⟨p, n'⟩
        · exact n k p
        · obtain ⟨e, u, hu⟩ := old p n'
          rw [e, hu] at e2; cases e2
      cases new with
      | false => exact h
      | true =>
        cases d with
        | list xs => obtain ⟨z, b, ws, e1, e2, e3, e4, e5, e6⟩ := h; exact ⟨z, b, ws, e1, e2, e3, none_of_same k2 e4, e5, away e3 e4 e6⟩
        | dict xs => obtain ⟨b, ws, e1, e2, e3, e4, e5, e6⟩ := h; exact ⟨b, ws, e1, e2, e3, none_of_same k2 e4, e5, away e3 e4 e6⟩
        | none => exact h.elim
        | bool _ => exact h.elim
        | int _ => exact h.elim
        | str _ => exact h.elim
        | tuple _ => exact h.elim
end
end Core
end

section
set_option Elab.async false
set_option linter.all false
set_option maxRecDepth 100000
set_option autoImplicit false
set_option maxHeartbeats 1000000
/-! Soundness 9a: enumerate of a tuple. -/
namespace Core
open PySem PySem.Spec PyProof.Rows L2
theorem meets_enumT (t : Addr) (items : Array Value) (o : Obj) (n : Nat) (hc : o.cls = .type "tuple") (hd : o.data = .seq items n) :
    Meets (Builtin.«enumerate.__new__» ⟨[.type "enumerate", .ref t], []⟩) (fun _ R s => s.heap.get? t = some o ∧
      R (.ok (.ret (.ref (s.heap.push { cls := .type "tuple_iterator", data := .fields #[.ref t, .int 0 0] }).objs.size)))
        { s with heap := (s.heap.push { cls := .type "tuple_iterator", data := .fields #[.ref t, .int 0 0] }).push { cls := .type "enumerate", data := .fields #[.none, .bool false, .ref s.heap.objs.size, rawInt 0, .none, .none] } }) :=
  .of_wp fun prog w A R s h => by
    obtain ⟨c, dct, dt, sl⟩ := o
    have hc : c = Value.type "tuple" := hc
    have hd : dt = Data.seq items n := hd
    subst hc hd
    obtain ⟨hp, g, d, tk, os⟩ := s
    obtain ⟨hl, h⟩ := h
    have hsub := sub_enumerate
    have hT : Heap.IsTuple (Shared.heap ⟨hp, g, d, tk, os⟩) t items := ⟨_, hl, rfl, n, rfl⟩
    wp_walk using AutoSeq1.wpAny_loadPart' hl
    refine wpAny_stack_any fun st => wpAny_pure ?_
    split
    · rename_i c _ _ _ _ _
      cases (c == Value.type "enumerate") <;> (wp_walk using AutoSeq1.wpAny_loadPart' hl, wpAny_pyIter_tuple hT; exact ⟨_, rfl, h⟩)
    · wp_walk using AutoSeq1.wpAny_loadPart' hl, wpAny_pyIter_tuple hT
      exact ⟨_, rfl, h⟩
section
variable {prog : Program} {w : World} {A : Around} {E : Value → Shared → Prop} {s : Shared}
theorem call_enumT {t : Addr} {items : Array Value} {Q : Value → Shared → Prop} (hT : s.heap.IsTuple t items)
    (h : ∀ h', IsEnum h' (s.heap.objs.size + 1) s.heap.objs.size 0 .none → h'.IsTupleIter s.heap.objs.size t 0 → h'.objs.size = s.heap.objs.size + 2 →
      (∀ b o, s.heap.get? b = some o → h'.get? b = some o) → Q (.ref (s.heap.objs.size + 1)) { s with heap := h' }) :
    wpAny (model prog w) A (call (.type "enumerate") [.ref t]) Q E s := by
  obtain ⟨o, hl, hc, n, hd⟩ := hT
  refine callType_new F.called_enumerate (by decide) (F.typeCall_enumerate_1 _) (F.newCall_enumerate_1 _) (fun obj => F.args_object_init_2 obj _) F.entry_enumerate_new (meets_enumT t items o n hc hd) ⟨hl, ?_⟩
  generalize e1 : s.heap.push { cls := .type "tuple_iterator", data := .fields #[.ref t, .int 0 0] } = h1
  have z1 : h1.objs.size = s.heap.objs.size + 1 := by rw [← e1, Heap.size_push]
  have i1 : h1.get? s.heap.objs.size = some { cls := .type "tuple_iterator", data := .fields #[.ref t, .int 0 0] } := by rw [← e1]; exact Heap.get?_push_size _ rfl
  have k1 : ∀ b o, s.heap.get? b = some o → h1.get? b = some o := fun b o x => by rw [← e1]; exact Heap.get?_push_of_some _ x
  have he : IsEnum (h1.push { cls := .type "enumerate", data := .fields #[.none, .bool false, .ref s.heap.objs.size, rawInt 0, .none, .none] }) (s.heap.objs.size + 1) s.heap.objs.size 0 .none := by
    rw [← z1]
    exact Heap.get?_push_size _ rfl
  rw [z1]
  exact ⟨⟨_, he, rfl⟩, h _ he ⟨_, Heap.get?_push_of_some _ i1, rfl, rfl⟩ (by rw [Heap.size_push, z1]) fun b o x => Heap.get?_push_of_some _ (k1 b o x)⟩
end
/-- the tuple at a as it stands at each turn, each item in a new pair -/
def IteT (K : PySem.W.Frag) (a : Addr) : It :=
  ⟨fun i H => ∃ (xs : List V) (x : V), SqT K H a xs ∧ xs[i]? = some x, fun i H v H' => ∃ T x, v = .ref T ∧ H T = none ∧ H' = upd H T (.tup [.int (i : Nat), x]) ∧ ∀ xs, SqT K H a xs → xs[i]? = some x, fun i H => ∃ xs : List V, SqT K H a xs ∧ xs.length = i⟩
theorem turn_enumT {P : Program} {w : World} {K : PySem.W.Frag} {elts : List Expr} {kk : Nat} {tpos : Pos} (a e it : Addr) (hea : e ≠ a) (hia : a ≠ it) :
    Turn P w K (.Tuple elts kk tpos) (IteT K a) [e, it] e (fun i h => (∃ old, IsEnum h e it ((i : Nat) : Int) old) ∧ h.IsTupleIter it a i ∧ e ≠ it) where
  mem := by simp
  obj := fun i h st b hb => by
    obtain ⟨⟨old, he⟩, ⟨o, ho, hc, hd⟩, _⟩ := st
    rcases List.mem_cons.mp hb with z | hb
    · rw [z]; exact ⟨_, he, fun v q => nomatch q⟩
    · rw [List.mem_singleton.mp hb]; exact ⟨o, ho, fun v q => by rw [hd] at q; cases q⟩
  keep := fun i h h' st k => let ⟨⟨old, he⟩, hi, hne⟩ := st; ⟨⟨old, k e (by simp) _ he⟩, hi.at fun o q => k it (by simp) o q, hne⟩
  item := by
    intro X hP hw hK hc i pins s σ H E I hf st hg
    subst hP hw hK
    obtain ⟨⟨old, he⟩, hit, hne⟩ := st
    obtain ⟨xs, x, hq, hx⟩ := hg
    obtain ⟨its, rv, p, hz⟩ := I.tuple hq
    obtain ⟨u, hu, ru⟩ := rv.get hx
    have hel : e < s.heap.objs.size := Heap.lt_size he
    have hil : it < s.heap.objs.size := by obtain ⟨_, q, _⟩ := hit; exact Heap.lt_size q
    have hi : i < its.toArray.size := by rw [List.size_toArray]; exact (List.getElem?_eq_some_iff.mp hu).1
    have D := Draws.tuple (prog := X.prog) (w := X.w) (A := X.A.in1) (I.ok.hd hc) it a hia its.toArray
    refine wpAny_pyNext_enum_itemD D he ⟨hit, p⟩ hi hne (fun z => by simp only [List.mem_cons, List.not_mem_nil, or_false] at z; rcases z with z | z; exact hne z; exact hea z) fun x2 h' tk hP2 ho hst hT hsz hk => ?_
    have ex : x2 = u := by
      have h1 : its.toArray[i]? = some x2 := hP2
      rw [show its.toArray[i]? = its[i]? by simp, hu] at h1
      exact (Option.some.inj h1).symm
    subst ex
    refine ⟨_, rfl, wpAny_letOwnedTupleGo_enum (s := { s with heap := h', toks := tk + 1 }) ho fun h'' he' sb => ?_⟩
    have hT2 : h''.get? s.heap.objs.size = some { cls := .type "tuple", data := .seq #[.int i tk, x2] } := (sb.2 _ (Nat.ne_of_gt hel)).trans hT
    have new : ObjOk X.prog X.w (upd H s.heap.objs.size (.tup [.int (i : Nat), x])) h'' s.heap.objs.size (.tup [.int (i : Nat), x]) :=
      ⟨by show 2 ≤ sizeLine; decide, [.int i tk, x2], .cons ⟨_, rfl⟩ (.cons ru .nil), ⟨_, hT2, rfl, _, rfl⟩⟩
    have I1 : Inv X pins σ (upd H s.heap.objs.size (.tup [.int (i : Nat), x])) { s with heap := h'', toks := tk + 1 } :=
      I.turnedNew (ch := [e, it]) (fun b ob hb q => (sb.2 b (fun z => hb (by simp [z]))).trans (hk b ob (fun z => hb (by simp [z])) (fun z => hb (by simp [z])) q)) hf (Nat.le_refl _) new
    refine ⟨.ref s.heap.objs.size, _, I1, rfl, ⟨_, x, rfl, I.hok.fresh (Nat.le_refl _), rfl, fun ys hy => by rw [I.tuple_inj hy hq]; exact hx⟩, ⟨⟨x2, ?_⟩, hst.1.at fun o q => (sb.2 it (Ne.symm hne)).trans q, hne⟩, fun b hb => ?_⟩
    · have e1 : ((i + 1 : Nat) : Int) = (i : Int) + 1 := by omega
      rw [e1]; exact he'
    · have hb' : b < s.heap.objs.size := by
        rcases List.mem_cons.mp hb with z | z
        · rw [z]; exact hel
        · rw [List.mem_singleton.mp z]; exact hil
      rw [upd_ne (Nat.ne_of_lt hb')]
      exact (hf b hb).1
  done := by
    intro X hP hw hK hc i pins s σ H E I hf st hg
    subst hP hw hK
    obtain ⟨⟨old, he⟩, hit, hne⟩ := st
    obtain ⟨xs, hq, hx⟩ := hg
    obtain ⟨its, rv, p, hz⟩ := I.tuple hq
    obtain ⟨f0, f1, f2, f3, f4, f5⟩ := hf it (by simp)
    have hl := rv.length
    have D := Draws.tuple (prog := X.prog) (w := X.w) (A := X.A.in1) (I.ok.hd hc) it a hia its.toArray
    have hi : its.toArray.size = i := by rw [List.size_toArray]; omega
    exact wpAny_pyNext_enum_endD D he ⟨by rw [hi]; exact hit, p⟩ fun h' eb => ⟨rfl, I.turned (t' := s.toks) (fun b o hb q => eb b o hb q) f0 f1 f3 f4 f5⟩
  self := fun A i s Q E st h => let ⟨⟨_, he⟩, _⟩ := st; wpAny_pyIter_enum he h
/-- enumerate of a list, of a tuple -/
def iEnumA (K : PySem.W.Frag) (ta : TA) : TI := fun σ H R => ta σ H fun vs H1 => ∃ a xs, vs = [.ref a] ∧ ((SqL K H1 a xs ∧ R (Ite K a) H1) ∨ (SqT K H1 a xs ∧ R (IteT K a) H1))
theorem pi_enumA {X : L2.Cx} {e : Expr} {ta : TA} {p pos tpos : Pos} {elts : List Expr} {kk : Nat} (hg : Gl X "enumerate") (hm : X.mg "enumerate" = none) (ha : PA X [e] ta) (hs : starEach [e] X.env = [(false, eval e X.env)]) :
    PI X (.Tuple elts kk tpos) (.Call (.Name "enumerate" p) [e] [] pos) (iEnumA X.K ta) := by
  refine ⟨fun pins s σ H R I h => ?_⟩
  refine Call_ (ld_blt I hg hm boot_enumerate (PyProof.Rows.callWith_type1 (thn (ha.run pos pins s σ H _ I h) fun us s1 ⟨vs, H1, I1, r1, q1⟩ => ?_) hs rfl))
  obtain ⟨a, xs, ex, q1⟩ := q1
  subst ex
  cases r1 with
  | cons r rr =>
    cases rr
    cases r
    have fresh2 : ∀ b ∈ [s1.heap.objs.size + 1, s1.heap.objs.size], FpOk X pins H1 b := fun b hb => by
      have hle : s1.heap.objs.size ≤ b := by
        rcases List.mem_cons.mp hb with z | z
        · rw [z]; exact Nat.le_add_right _ _
        · rw [List.mem_singleton.mp z]; exact Nat.le_refl _
      exact I1.fpOk hle (I1.hok.fresh hle)
    rcases q1 with ⟨hq, q⟩ | ⟨hq, q⟩
    · obtain ⟨its, rv, p', hz⟩ := I1.list hq
      refine call_enumerate_list p'.isList fun h' he hit hsz hk => wpAny_pyIter_enum he ?_
      exact ⟨s1.heap.objs.size + 1, [s1.heap.objs.size + 1, s1.heap.objs.size], _, _, H1, rfl, I1.kept (t' := s1.toks) hk, turn_enum a (s1.heap.objs.size + 1) s1.heap.objs.size, ⟨⟨.none, he⟩, hit, Nat.succ_ne_self _⟩, fresh2, q⟩
    · obtain ⟨its, rv, p', hz⟩ := I1.tuple hq
      have hal : a < s1.heap.objs.size := by obtain ⟨_, q, _⟩ := p'; exact Heap.lt_size q
      refine call_enumT p' fun h' he hit hsz hk => wpAny_pyIter_enum he ?_
      exact ⟨s1.heap.objs.size + 1, [s1.heap.objs.size + 1, s1.heap.objs.size], _, _, H1, rfl, I1.kept (t' := s1.toks) hk, turn_enumT a (s1.heap.objs.size + 1) s1.heap.objs.size (Nat.ne_of_gt (Nat.lt_succ_of_lt hal)) (Nat.ne_of_lt hal), ⟨⟨.none, he⟩, hit, Nat.succ_ne_self _⟩, fresh2, q⟩
end Core
end

section
set_option Elab.async false
set_option linter.all false
set_option maxRecDepth 100000
set_option autoImplicit false
set_option maxHeartbeats 400000
/-! Soundness 9b: expressions, without calls of defs and comprehensions. -/
namespace Core
open PySem PySem.Spec PyProof.Rows L2

theorem _root_.L2.PE.imp {X : L2.Cx} {e : Expr} {t t' : TE} (h : PE X e t) (i : ∀ σ H Q, t' σ H Q → t σ H Q) : PE X e t' := ⟨fun pins s σ H Q I hw => h.run pins s σ H Q I (i σ H Q hw)⟩
theorem _root_.L2.PT.imp {X : L2.Cx} {e : Expr} {t t' : TT} (h : PT X e t) (i : ∀ σ H Q, t' σ H Q → t σ H Q) : PT X e t' := ⟨fun pins s σ H Q I hw => h.run pins s σ H Q I (i σ H Q hw)⟩
theorem _root_.L2.PA.imp {X : L2.Cx} {e : List Expr} {t t' : TA} (h : PA X e t) (i : ∀ σ H Q, t' σ H Q → t σ H Q) : PA X e t' := ⟨fun pos pins s σ H Q I hw => h.run pos pins s σ H Q I (i σ H Q hw)⟩
theorem _root_.L2.PI.imp {X : L2.Cx} {tg e : Expr} {t t' : TI} (h : PI X tg e t) (i : ∀ σ H Q, t' σ H Q → t σ H Q) : PI X tg e t' := ⟨fun pins s σ H Q I hw => h.run pins s σ H Q I (i σ H Q hw)⟩

/-! ### forms -/
def plainE : Expr → Bool
  | .Starred .. => false
  | .Set .. => false
  | .Slice .. => false
  | _ => true
theorem star_cons {e : Expr} (h : plainE e = true) (es : List Expr) (env : PySem.Env) : starEach (e :: es) env = (false, eval e env) :: starEach es env := by
  cases e <;> first | rfl | cases h
theorem no_behind {b : Expr} (h : plainE b = true) (op : CmpOp) : behindInMarks op b = false := by
  cases b <;> first | rfl | cases h
theorem plain_ix {b : Expr} (h : plainE b = true) : PlainIx b := fun o i => by
  cases b <;> first | rfl | cases h
theorem no_fold {b : Expr} (h : plainE b = true) (env : PySem.Env) (x : Value) : foldedSetIterable b env x = pure x := by
  cases b <;> first | rfl | cases h
/-- the expression is a test by its value -/
def byValue : Expr → Bool
  | .UnaryOp .Not _ _ => false
  | .BoolOp .. => false
  | .IfExp .. => false
  | .Compare .. => false
  | _ => true
theorem by_value {e : Expr} (h : byValue e = true) (env : PySem.Env) (whole : Sem Value) : isTrue e env whole = (do let v ← whole; standAt e.pos; holding [v] (truthy v)) := by
  cases e <;> first | rfl | cases h | skip
  rename_i op a p
  cases op <;> first | rfl | cases h

section
variable (C : Ctx) (T : List (Addr × Str)) (cl : Nat → Value)
/-- an expression and its core term: as a value, as a test -/
structure Snd (X : L2.Cx) (W : WX) (e : Expr) (c : CE) : Prop where
  pl : plainE e = true
  v : PE X e (TEx X.K T W cl (evE C c))
  t : PT X e (TTx X.K T W cl (evT C c))
inductive SndL (X : L2.Cx) (W : WX) : List Expr → List CE → Prop
  | nil : SndL X W [] []
  | cons {e : Expr} {es : List Expr} {c : CE} {cs : List CE} : Snd C T cl X W e c → SndL X W es cs → SndL X W (e :: es) (c :: cs)
def TAx (K : PySem.W.Frag) (W : WX) (ev : Env → Out (List D)) : TA := fun σ H Q => ∃ B G env, R K T B G env σ H ∧ Fin K T W cl B G σ (ev env) fun ds env' G' H' => ∀ vs, RpAll K G' vs ds → Q vs H'
def TRx (K : PySem.W.Frag) (W : WX) (ev : Env → Out (List RV)) : TA := fun σ H Q => ∃ B G env, R K T B G env σ H ∧ Fin K T W cl B G σ (ev env) fun rs env' G' H' => ∀ vs, AR K G' σ vs rs → Q vs H'
end
section
variable {C : Ctx} {T : List (Addr × Str)} {cl : Nat → Value} {X : L2.Cx} {W : WX}
theorem compL_snd {f : Expr → Option CE} (h : ∀ e c, f e = some c → Snd C T cl X W e c) : ∀ {es : List Expr} {cs : List CE}, compL f es = some cs → SndL C T cl X W es cs
  | [], cs, e => by cases e; exact .nil
  | a :: es, cs, e => by
    unfold compL at e
    split at e
    · rename_i h1 h2
      cases e
      exact .cons (h _ _ h1) (compL_snd h h2)
    · cases e
theorem Snd.plain {e : Expr} {c : CE} (pl : plainE e = true) (h : PE X e (TEx X.K T W cl (evE C c))) (hv : byValue e = true) : Snd C T cl X W e c := ⟨pl, h, (pt_val h (by_value hv X.env)).imp fun σ H Q q => TTx.tex q⟩
theorem bind_assoc {α β γ : Type} (o : Out α) (f : α → Env → Out β) (g : β → Env → Out γ) : (o.bind f).bind g = o.bind fun a e => (f a e).bind g := by
  cases o <;> rfl
theorem frz_ex {r : RV} {e : Env} {x : Exc} {e2 : Env} : frz r e ≠ .ex x e2 := by
  cases r with
  | f d => intro z; cases z
  | n d => intro z; cases z
  | b i =>
    show (match e[i]? with | some (.v d) => Out.ok d e | some (.o xs) => .ok (.list xs) (e.set i (.v (.list xs))) | some (.q kvs) => .ok (.dict kvs) (e.set i (.v (.dict kvs))) | _ => .bad) ≠ _
    cases e[i]? with
    | none => intro z; cases z
    | some s => cases s <;> (intro z; cases z)
section
variable {K : PySem.W.Frag} {B G H : Hp} {σ : L2.St} {env : Env}
theorem TEx.frozen {ev : Env → Out RV} {β : Type} {k : D → Env → Out β} {N : β → Env → Hp → Hp → Prop} {Q : VK} (S : R K T B G env σ H) (h : Fin K T W cl B G σ (((ev env).bind frz).bind k) N)
    (q : ∀ x d e G1 H1, GX B G G1 → R K T B G1 e σ H1 → Rp K G1 x d → Fin K T W cl B G1 σ (k d e) N → Q x H1) : TEx K T W cl ev σ H Q := by
  rw [bind_assoc] at h
  refine TEx.one S h fun x r e G1 H1 g S1 rv h1 => ?_
  cases e1 : frz r e with
  | bad => rw [e1] at h1; exact h1.elim
  | ex y e2 => exact absurd e1 frz_ex
  | ok d e2 =>
    rw [e1] at h1
    obtain ⟨G2, g2, S2, rp⟩ := rv.frozen S1 e1
    exact q x d e2 G2 H1 (g.trans g2) S2 rp (Fin.grow h1 g2)
end
/-- the items of a display -/
theorem pa_es {es : List Expr} {cs : List CE} (h : SndL C T cl X W es cs) : PA X es (TAx T cl X.K W (evEs C cs)) := by
  induction h with
  | nil =>
    refine pa_nil.imp fun σ H Q q => ?_
    obtain ⟨B, G, env, S, h⟩ := q
    exact (show Fin _ _ _ _ _ _ _ (.ok [] env) _ from h).at S [] .nil
  | @cons e es c cs he hes ih =>
    refine (pa_cons he.v ih (star_cons he.pl es X.env)).imp fun σ H Q q => ?_
    obtain ⟨B, G, env, S, h⟩ := q
    refine TEx.frozen S (show Fin _ _ _ _ _ _ _ (((evE C c env).bind frz).bind fun d env => (evEs C cs env).bind fun ds env => .ok (d :: ds) env) _ from h) fun x d e G1 H1 g S1 rp h1 => ?_
    refine ⟨B, G1, e, S1, h1.bind.mono fun ds e2 G2 H2 g2 S2 h2 vs rv => h2.at S2 (x :: vs) (.cons (Rp.mono g2.same _ _ rp) rv)⟩
theorem sndl_plain {es : List Expr} {cs : List CE} (h : SndL C T cl X W es cs) (pos : Pos) : (backTo pos (starEach es X.env)).any (·.1) = false := by
  induction h with
  | nil => rfl
  | @cons e es c cs he hes ih =>
    rw [star_cons he.pl]
    show (false || (backTo pos (starEach es X.env)).any (·.1)) = false
    rw [ih]; rfl
/-- the arguments of a def's call -/
theorem pa_rs {es : List Expr} {cs : List CE} (h : SndL C T cl X W es cs) (io : Nat → Bool) : ∀ n, PA X es (TRx T cl X.K W (evRs C io n cs)) := by
  induction h with
  | nil =>
    intro n
    refine pa_nil.imp fun σ H Q q => ?_
    obtain ⟨B, G, env, S, h⟩ := q
    exact (show Fin _ _ _ _ _ _ _ (.ok [] env) _ from h).at S [] .nil
  | @cons e es c cs he hes ih =>
    intro n
    refine (pa_cons he.v (ih (n + 1)) (star_cons he.pl es X.env)).imp fun σ H Q q => ?_
    obtain ⟨B, G, env, S, h⟩ := q
    have h : Fin X.K T W cl B G σ (((evE C c env).bind fun r env => if io n && isB r then .ok r env else (frz r env).bind fun d env => .ok (RV.f d) env).bind fun r env => (evRs C io (n + 1) cs env).bind fun rs env => .ok (r :: rs) env) _ := h
    rw [bind_assoc] at h
    refine TEx.one S h fun x r e1 G1 H1 g S1 rv h1 => ?_
    have next : ∀ {G2 : Hp} {e2 : Env} {r2 : RV}, GX B G1 G2 → R X.K T B G2 e2 σ H1 → (∀ G3, Same G2 G3 → ∀ vs rs, AR X.K G3 σ vs rs → AR X.K G3 σ (x :: vs) (r2 :: rs)) →
        Fin X.K T W cl B G2 σ ((evRs C io (n + 1) cs e2).bind fun rs env => .ok (r2 :: rs) env) (fun rs env' G' H' => ∀ vs, AR X.K G' σ vs rs → Q vs H') → TRx T cl X.K W (evRs C io (n + 1) cs) σ H1 fun xs H2 => Q (x :: xs) H2 := fun {G2 e2 r2} g2 S2 ext h2 =>
      ⟨B, G2, e2, S2, h2.bind.mono fun rs e3 G3 H3 g3 S3 h3 vs a => h3.at S3 (x :: vs) (ext G3 g3.same vs rs a)⟩
    by_cases hb : (io n && isB r) = true
    · rw [if_pos hb] at h1
      cases r with
      | b i => exact next (GX.refl B G1) S1 (fun G3 _ vs rs a => .b rv a) h1
      | f d => rw [Bool.and_eq_true] at hb; cases hb.2
      | n d => rw [Bool.and_eq_true] at hb; cases hb.2
    · rw [if_neg hb] at h1
      cases e4 : frz r e1 with
      | bad => rw [e4] at h1; exact h1.elim
      | ex y e2 => exact absurd e4 frz_ex
      | ok d e2 =>
        rw [e4] at h1
        obtain ⟨G2, g2, S2, rp⟩ := rv.frozen S1 e4
        exact next g2 S2 (fun G3 s3 vs rs a => .f (Rp.mono s3 _ _ rp) a) (Fin.grow h1 g2)

/-! ### the forms, one by one -/
theorem snd_un1 {op : UnaryOp} {a : Expr} {pos : Pos} {c : CE} (o : O1) (ho : UnR X (unaryOp op) fun x H Q => S1 X.K o [x] H Q) (hv : byValue (.UnaryOp op a pos) = true) (ha : Snd C T cl X W a c) : Snd C T cl X W (.UnaryOp op a pos) (.o1 o c) :=
  .plain rfl ((pe_un ho ha.v).imp fun σ H Q q => TEx.op1 q) hv
theorem snd_bin {op : Operator} {a b : Expr} {pos : Pos} {c d : CE} {o : O2} (hi : o ≠ .idx) (ho : OpR X (binaryOp op) (S2 X.K o)) (ha : Snd C T cl X W a c) (hb : Snd C T cl X W b d) : Snd C T cl X W (.BinOp a op b pos) (.o2 o c d) :=
  .plain rfl ((pe_op ho ha.v hb.v).imp fun σ H Q q => TEx.op2 hi q) rfl
theorem snd_cmp {op : CmpOp} {a b : Expr} {pos : Pos} {c d : CE} {o : O2} (hi : o ≠ .idx) (ho : OpR X (compareOp op) (S2 X.K o)) (ha : Snd C T cl X W a c) (hb : Snd C T cl X W b d) : Snd C T cl X W (.Compare a [op] [b] pos) (.o2 o c d) :=
  ⟨rfl, (pe_cmpR ho ha.v hb.v (no_behind hb.pl op)).imp fun σ H Q q => TEx.op2 hi q, (pt_cmpR ho ha.v hb.v (no_behind hb.pl op)).imp fun σ H Q q => TEx.op2 hi (TTx.tex q)⟩
theorem snd_is {op : CmpOp} {a b : Expr} {pos : Pos} {c : CE} {o : O1} {y : V} (hp : plainE b = true) (hb : PE X b (tC y)) (ho : OpR X (compareOp op) fun x z H Q => z = y ∧ S1 X.K o [x] H Q) (ha : Snd C T cl X W a c) : Snd C T cl X W (.Compare a [op] [b] pos) (.o1 o c) := by
  have im : ∀ σ H Q, TEx X.K T W cl (evE C (.o1 o c)) σ H Q → tOp (fun x z H Q => z = y ∧ S1 X.K o [x] H Q) (TEx X.K T W cl (evE C c)) (tC y) σ H Q := fun σ H Q q => by
    obtain ⟨B, G, env, S, h⟩ := TEx.op1 q
    exact ⟨B, G, env, S, h.mono fun r e G' H' _ _ k v rv => ⟨rfl, k v rv⟩⟩
  exact ⟨rfl, (pe_cmpR ho ha.v hb (no_behind hp op)).imp im, (pt_cmpR ho ha.v hb (no_behind hp op)).imp fun σ H Q q => im σ H _ (TTx.tex q)⟩
theorem snd_idx {a b : Expr} {pos : Pos} {c d : CE} (hu : X.A.units + 65 < cLine) (ha : Snd C T cl X W a c) (hb : Snd C T cl X W b d) : Snd C T cl X W (.Subscript a b pos) (.o2 .idx c d) :=
  .plain rfl ((pe_ix (ok_idx hu) ha.v hb.v (plain_ix hb.pl)).imp fun σ H Q q => TEx.idx q) rfl
theorem snd_fn1 {x : Str} {a : Expr} {p pos : Pos} {c : CE} {o : O1} {id : String} (ho : CallR X (.builtin id) (S1 X.K o)) (hg : Gl X x) (hm : X.mg x = none) (hv : bootBuiltins x = some (.builtin id)) (hn : x ≠ "__name__") (hd : (x == ("__debug__" : Str)) = false) (ha : Snd C T cl X W a c) :
    Snd C T cl X W (.Call (.Name x p) [a] [] pos) (.o1 o c) :=
  .plain rfl ((pe_callB ho hg hm hv (pa_cons ha.v pa_nil (star_cons ha.pl [] X.env)) hn hd (star_cons ha.pl [] X.env) rfl).imp fun σ H Q q => TEx.op1 q) rfl
theorem snd_ty1 {x : Str} {a : Expr} {p pos : Pos} {c : CE} {o : O1} {id : String} (ho : CallR X (.type id) (S1 X.K o)) (hg : Gl X x) (hm : X.mg x = none) (hv : bootBuiltins x = some (.type id)) (hn : x ≠ "__name__") (hd : (x == ("__debug__" : Str)) = false) (ha : Snd C T cl X W a c) :
    Snd C T cl X W (.Call (.Name x p) [a] [] pos) (.o1 o c) :=
  .plain rfl ((pe_callTy ho hg hm hv (pa_cons ha.v pa_nil (star_cons ha.pl [] X.env)) hn hd (star_cons ha.pl [] X.env) rfl).imp fun σ H Q q => TEx.op1 q) rfl
theorem snd_fn2 {x : Str} {a b : Expr} {p pos : Pos} {c d : CE} {o : O2} {id : String} (hi : o ≠ .idx) (ho : CallR X (.builtin id) (S2c X.K o)) (hg : Gl X x) (hm : X.mg x = none) (hv : bootBuiltins x = some (.builtin id)) (hn : x ≠ "__name__") (hd : (x == ("__debug__" : Str)) = false) (ha : Snd C T cl X W a c) (hb : Snd C T cl X W b d) :
    Snd C T cl X W (.Call (.Name x p) [a, b] [] pos) (.o2 o c d) := by
  refine .plain rfl ((pe_callB ho hg hm hv (pa_cons ha.v (pa_cons hb.v pa_nil (star_cons hb.pl [] X.env)) (star_cons ha.pl [b] X.env)) hn hd (star_cons ha.pl [b] X.env) (sndl_plain (.cons hb .nil) pos)).imp fun σ H Q q => ?_) rfl
  obtain ⟨B, G, env, S, h⟩ := TEx.op2 hi q
  refine ⟨B, G, env, S, h.mono fun r e G' H' _ _ k v rv => ?_⟩
  obtain ⟨B2, G2, env2, S2, h2⟩ := k v rv
  exact ⟨B2, G2, env2, S2, h2.mono fun r e G' H' _ _ k u ru => ⟨v, u, rfl, k u ru⟩⟩
theorem snd_isi {a b : Expr} {p pos : Pos} {c : CE} {o : O1} {n : String} (ho : isOp o = some n) (hg : Gl X "isinstance") (hm : X.mg "isinstance" = none) (hp : plainE b = true) (hb : PE X b (tC (.ty n))) (ha : Snd C T cl X W a c) :
    Snd C T cl X W (.Call (.Name "isinstance" p) [a, b] [] pos) (.o1 o c) := by
  refine .plain rfl ((pe_callB (ok_is ho) hg hm (by decide +kernel) (pa_cons ha.v (pa_cons hb pa_nil (star_cons hp [] X.env)) (star_cons ha.pl [b] X.env)) (by decide) (by decide) (star_cons ha.pl [b] X.env) (by rw [star_cons hp]; rfl)).imp fun σ H Q q => ?_) rfl
  obtain ⟨B, G, env, S, h⟩ := TEx.op1 q
  exact ⟨B, G, env, S, h.mono fun r e G' H' _ _ k v rv => ⟨v, rfl, k v rv⟩⟩
theorem seq_len {n : Nat} (h : n ≤ 1000) : n ≤ lineMax := Nat.le_trans h (by decide)
theorem evEs_len : ∀ {cs : List CE} {env : Env} {ds : List D} {e : Env}, evEs C cs env = .ok ds e → ds.length = cs.length
  | [], env, ds, e, h => by
    have h : Out.ok [] env = .ok ds e := h
    cases h; rfl
  | c :: cs, env, ds, e, h => by
    have h : (((evE C c env).bind frz).bind fun d env => (evEs C cs env).bind fun ds env => .ok (d :: ds) env) = .ok ds e := h
    cases e1 : (evE C c env).bind frz with
    | bad => rw [e1] at h; cases h
    | ex x e => rw [e1] at h; cases h
    | ok d e2 =>
      rw [e1] at h
      have h : ((evEs C cs e2).bind fun ds env => .ok (d :: ds) env) = .ok ds e := h
      cases e3 : evEs C cs e2 with
      | bad => rw [e3] at h; cases h
      | ex x e => rw [e3] at h; cases h
      | ok ds' e4 =>
        rw [e3] at h
        cases h
        rw [List.length_cons, List.length_cons, evEs_len e3]
theorem sndl_len {es : List Expr} {cs : List CE} (h : SndL C T cl X W es cs) : cs.length = es.length := by
  induction h with
  | nil => rfl
  | cons _ _ ih => rw [List.length_cons, List.length_cons, ih]
theorem Fin.okk {α : Type} {K : PySem.W.Frag} {B G : Hp} {σ : L2.St} {o : Out α} {N N' : α → Env → Hp → Hp → Prop} (h : Fin K T W cl B G σ o N) (m : ∀ a e G' H', o = .ok a e → GX B G G' → R K T B G' e σ H' → N a e G' H' → N' a e G' H') : Fin K T W cl B G σ o N' := by
  cases o with
  | ok a e => exact fun G' H' g S => m a e G' H' rfl g S (h G' H' g S)
  | ex x e => exact h
  | bad => exact h
theorem snd_tup {es : List Expr} {x : Nat} {pos : Pos} {cs : List CE} (hl : es.length ≤ 1000) (h : SndL C T cl X W es cs) : Snd C T cl X W (.Tuple es x pos) (.tup cs) := by
  refine .plain rfl ((pe_tup (pa_es h)).imp fun σ H Q q => ?_) rfl
  obtain ⟨B, G, env, S, q⟩ := q
  have q : Fin X.K T W cl B G σ ((evEs C cs env).bind fun ds env => .ok (RV.f (.tuple ds)) env) _ := q
  refine ⟨B, G, env, S, q.bind.okk fun ds e G1 H1 e1 g1 S1 h1 vs rv => ?_⟩
  have z : ds.length ≤ lineMax := by rw [evEs_len e1, sndl_len h]; exact seq_len hl
  refine ⟨by rw [rv.length]; exact z, fun p hp => ?_⟩
  have gf := gf_tup (o := .tup vs) S1.gh hp
  exact h1 _ _ (gf.gx S1.bh) (S1.laid gf) _ (nw_tup S1.gh hp z rv)
theorem snd_lst {es : List Expr} {pos : Pos} {cs : List CE} (hl : es.length ≤ 1000) (h : SndL C T cl X W es cs) : Snd C T cl X W (.List es pos) (.lst cs) := by
  refine .plain rfl ((pe_lst (pa_es h)).imp fun σ H Q q => ?_) rfl
  obtain ⟨B, G, env, S, q⟩ := q
  have q : Fin X.K T W cl B G σ ((evEs C cs env).bind fun ds env => .ok (RV.n (.list ds)) env) _ := q
  refine ⟨B, G, env, S, q.bind.okk fun ds e G1 H1 e1 g1 S1 h1 vs rv => ?_⟩
  have z : ds.length ≤ lineMax := by rw [evEs_len e1, sndl_len h]; exact seq_len hl
  refine ⟨by rw [rv.length]; exact z, fun p hp => ?_⟩
  have gf := gf_new (o := .lst vs) S1.gh hp
  exact h1 _ _ (gf.gx S1.bh) (S1.laid gf) _ (rvr_mk (d := .list ds) S1 gf (nw_list S1.gh hp z rv))
/-- constants -/
theorem snd_cst {e : Expr} {v : V} {d : D} (pl : plainE e = true) (hv : byValue e = true) (h : PE X e (tC v)) (hd : ∀ G, Rp X.K G v d) : Snd C T cl X W e (.cst d) := by
  refine .plain pl (h.imp fun σ H Q q => ?_) hv
  obtain ⟨B, G, env, S, q⟩ := q
  exact (show Fin X.K T W cl B G σ (.ok (RV.f d) env) _ from q).at S v (hd G)
/-- a local name -/
theorem snd_var {i : Nat} {x : Str} {pos : Pos} (hN : X.N[i]? = some x) (hv : Vis X.env.scope x) (hd : (x == ("__debug__" : Str)) = false) (hcd : (x == ("__classdict__" : Str)) = false) : Snd C T cl X W (.Name x pos) (.var i) := by
  refine .plain rfl ((pe_var hN hv hd hcd).imp fun σ H Q q => ?_) rfl
  obtain ⟨B, G, env, S, q⟩ := q
  have q : Fin X.K T W cl B G σ (match env[i]? with | some (.v d) => .ok (RV.f d) env | some (.o _) => .ok (RV.b i) env | some (.q _) => .ok (RV.b i) env | _ => .bad) _ := q
  cases e : env[i]? with
  | none => rw [e] at q; exact q.elim
  | some s =>
    have z := S.slot i s e
    rw [e] at q
    cases s with
    | no => exact q.elim
    | v d => obtain ⟨v, e1, e2⟩ := z; exact ⟨v, e1, q.at S v e2⟩
    | o xs => obtain ⟨_, a, vs, e1, _⟩ := z; exact ⟨_, e1, q.at S _ e1⟩
    | q xs => obtain ⟨a, vs, e1, _⟩ := z; exact ⟨_, e1, q.at S _ e1⟩
/-! ### and, or, not, if -/
theorem snd_not {a : Expr} {pos : Pos} {c : CE} (ha : Snd C T cl X W a c) : Snd C T cl X W (.UnaryOp .Not a pos) (.not_ c) := by
  have im : ∀ σ H Q, TEx X.K T W cl (evE C (.not_ c)) σ H Q → TEx X.K T W cl (evE C c) σ H fun x H1 => ∃ k, x = .bl k ∧ Q (.bl (!k)) H1 := fun σ H Q q => by
    obtain ⟨B, G, env, S, q⟩ := q
    refine TEx.one S (show Fin X.K T W cl B G σ ((evE C c env).bind fun r env => match peek r env with | some (.bool x) => .ok (RV.f (.bool (!x))) env | _ => .bad) _ from q) fun x r e G1 H1 g S1 rv h1 => ?_
    cases e1 : peek r e with
    | none => rw [e1] at h1; exact h1.elim
    | some d =>
      rw [e1] at h1
      cases d <;> first | exact h1.elim | skip
      rename_i b
      exact ⟨b, (rv.pk S1 e1).bool, (show Fin X.K T W cl B G1 σ (.ok (RV.f (.bool (!b))) e) _ from h1).at S1 _ (.bl _)⟩
  refine ⟨rfl, (pe_not ha.v).imp im, (pt_not ha.t).imp fun σ H Q q => ?_⟩
  obtain ⟨B, G, env, S, q⟩ := q
  have q : Fin X.K T W cl B G σ (((evE C c env).bind fun r env => match peek r env with | some (.bool x) => .ok (RV.f (.bool (!x))) env | _ => .bad).bind fun r env => match peek r env with | some (.bool b) => .ok b env | _ => .bad) _ := q
  refine ⟨B, G, env, S, ?_⟩
  show Fin X.K T W cl B G σ ((evE C c env).bind fun r env => match peek r env with | some (.bool b) => .ok b env | _ => .bad) _
  cases e0 : evE C c env with
  | bad => rw [e0] at q; exact q.elim
  | ex x e => rw [e0] at q; exact q
  | ok r e =>
    rw [e0] at q
    have q : Fin X.K T W cl B G σ ((match peek r e with | some (.bool x) => .ok (RV.f (.bool (!x))) e | _ => .bad : Out RV).bind fun r env => match peek r env with | some (.bool b) => .ok b env | _ => .bad) _ := q
    show Fin X.K T W cl B G σ (match peek r e with | some (.bool b) => .ok b e | _ => .bad) _
    cases e1 : peek r e with
    | none => rw [e1] at q; exact q.elim
    | some d =>
      rw [e1] at q
      cases d <;> first | exact q.elim | exact q
theorem snd_ite {c a b : Expr} {pos : Pos} {cc ca cb : CE} (hc : Snd C T cl X W c cc) (ha : Snd C T cl X W a ca) (hb : Snd C T cl X W b cb) : Snd C T cl X W (.IfExp c a b pos) (.ite cc ca cb) := by
  refine ⟨rfl, (pe_ifExp hc.t ha.v hb.v).imp fun σ H Q q => ?_, ?_⟩
  · obtain ⟨B, G, env, S, q⟩ := q
    refine TTx.boolAt (k := fun b => if b then evE C ca else evE C cb) S (show Fin X.K T W cl B G σ ((evE C cc env).bind fun r env => match peek r env with | some (.bool true) => evE C ca env | some (.bool false) => evE C cb env | _ => .bad) _ from q) fun b e G1 H1 g S1 h1 => ?_
    cases b with
    | true => exact ⟨B, G1, e, S1, h1⟩
    | false => exact ⟨B, G1, e, S1, h1⟩
  · refine ⟨fun pins s σ H Q I q => ?_⟩
    obtain ⟨B, G, env, S, q⟩ := q
    have q : Fin X.K T W cl B G σ (((evE C cc env).bind fun r env => match peek r env with | some (.bool true) => evE C ca env | some (.bool false) => evE C cb env | _ => .bad).bind fun r env => match peek r env with | some (.bool b) => .ok b env | _ => .bad) _ := q
    rw [bind_assoc] at q
    have q : Fin X.K T W cl B G σ ((evE C cc env).bind fun r env => match peek r env with | some (.bool true) => evT C ca env | some (.bool false) => evT C cb env | _ => .bad) (fun b e G' H' => Q b H') := by
      refine cast (congrArg (fun o => Fin X.K T W cl B G σ o _) (congrArg (Out.bind (evE C cc env)) ?_)) q
      funext r e
      cases peek r e with
      | none => rfl
      | some d =>
        cases d <;> first | rfl | skip
        rename_i b
        cases b <;> rfl
    have t := TTx.boolAt (Q := fun k H1 => if k = true then TTx X.K T W cl (evT C ca) σ H1 Q else TTx X.K T W cl (evT C cb) σ H1 Q) (k := fun b => if b then evT C ca else evT C cb) S q fun b e G1 H1 g S1 h1 => by
      cases b with
      | true => exact ⟨B, G1, e, S1, h1⟩
      | false => exact ⟨B, G1, e, S1, h1⟩
    refine isTrue_IfExp (thn (hc.t.run pins s σ H _ I t) fun d s1 ⟨H1, I1, q1⟩ => ?_)
    cases d with
    | true => exact ha.t.run pins s1 σ H1 Q I1 q1
    | false => exact hb.t.run pins s1 σ H1 Q I1 q1
end
end Core
end

section
set_option Elab.async false
set_option linter.all false
set_option maxRecDepth 100000
set_option autoImplicit false
set_option maxHeartbeats 400000
/-! Soundness 9c: and, or, chains, slices, sorted(set(..)), list(range(..)), dict displays, index. -/
namespace Core
open PySem PySem.Spec PyProof.Rows L2
section
variable {C : Ctx} {T : List (Addr × Str)} {cl : Nat → Value} {X : L2.Cx} {W : WX}
/-! ### and, or -/
theorem boolAt_e {K : PySem.W.Frag} {ev : Env → Out RV} {k : Bool → Env → Out RV} {σ : L2.St} {H : Hp} {Q : VK} (q : TEx K T W cl (fun env => (ev env).bind fun r env => match peek r env with | some (.bool true) => k true env | some (.bool false) => k false env | _ => .bad) σ H Q) :
    TEx K T W cl ev σ H fun x H1 => ∃ c, x = .bl c ∧ TEx K T W cl (k c) σ H1 Q := by
  obtain ⟨B, G, env, S, h⟩ := q
  exact TEx.boolAt S h fun b e G1 H1 g S1 h1 => ⟨b, rfl, B, G1, e, S1, h1⟩
theorem boolAt_t {K : PySem.W.Frag} {ev : Env → Out RV} {k : Bool → Env → Out RV} {σ : L2.St} {H : Hp} {Q : Bool → Hp → Prop}
    (q : TTx K T W cl (fun env => ((ev env).bind fun r env => match peek r env with | some (.bool true) => k true env | some (.bool false) => k false env | _ => .bad).bind fun r env => match peek r env with | some (.bool b) => .ok b env | _ => .bad) σ H Q) :
    TTx K T W cl (fun env => (ev env).bind fun r env => match peek r env with | some (.bool b) => .ok b env | _ => .bad) σ H fun c H1 => TTx K T W cl (fun env => (k c env).bind fun r env => match peek r env with | some (.bool b) => .ok b env | _ => .bad) σ H1 Q := by
  obtain ⟨B, G, env, S, h⟩ := q
  have h : Fin K T W cl B G σ (((ev env).bind fun r env => match peek r env with | some (.bool true) => k true env | some (.bool false) => k false env | _ => .bad).bind fun r env => match peek r env with | some (.bool b) => .ok b env | _ => .bad) (fun b env' G' H' => Q b H') := h
  rw [bind_assoc] at h
  have h : Fin K T W cl B G σ ((ev env).bind fun r env => match peek r env with | some (.bool true) => (k true env).bind (fun r env => match peek r env with | some (.bool b) => .ok b env | _ => .bad) | some (.bool false) => (k false env).bind (fun r env => match peek r env with | some (.bool b) => .ok b env | _ => .bad) | _ => .bad) (fun b e G' H' => Q b H') := by
    refine cast (congrArg (fun o => Fin K T W cl B G σ o _) (congrArg (Out.bind (ev env)) ?_)) h
    funext r e
    cases peek r e with
    | none => rfl
    | some d =>
      cases d <;> first | rfl | skip
      rename_i b
      cases b <;> rfl
  exact TTx.boolAt (k := fun b env => (k b env).bind (fun r env => match peek r env with | some (.bool b) => .ok b env | _ => .bad)) S h fun b e G1 H1 g S1 h1 => ⟨B, G1, e, S1, h1⟩
/-- a bool at once -/
theorem tex_bool {K : PySem.W.Frag} {b : Bool} {σ : L2.St} {H : Hp} {Q : VK} (q : TEx K T W cl (fun env => .ok (RV.f (.bool b)) env) σ H Q) : Q (.bl b) H := by
  obtain ⟨B, G, env, S, h⟩ := q
  exact (show Fin K T W cl B G σ (.ok (RV.f (.bool b)) env) _ from h).at S _ (.bl b)
theorem ttx_bool {K : PySem.W.Frag} {b : Bool} {σ : L2.St} {H : Hp} {Q : Bool → Hp → Prop} (q : TTx K T W cl (fun env => (Out.ok (RV.f (.bool b)) env).bind fun r env => match peek r env with | some (.bool b) => .ok b env | _ => .bad) σ H Q) : Q b H := by
  obtain ⟨B, G, env, S, h⟩ := q
  exact (show Fin K T W cl B G σ (.ok b env) _ from h).at S
/-- and, or: also as a test whatever the whole is -/
structure SndB (C : Ctx) (T : List (Addr × Str)) (cl : Nat → Value) (X : L2.Cx) (W : WX) (e : Expr) (c : CE) : Prop where
  v : PE X e (TEx X.K T W cl (evE C c))
  t : PW X e (TTx X.K T W cl (evT C c))
theorem _root_.L2.PW.imp {X : L2.Cx} {e : Expr} {t t' : TT} (h : PW X e t) (i : ∀ σ H Q, t' σ H Q → t σ H Q) : PW X e t' := ⟨fun wh pins s σ H Q I hw => h.run wh pins s σ H Q I (i σ H Q hw)⟩
theorem snd_and : ∀ {es : List Expr} {cs : List CE} {c : CE} {pos : Pos}, SndL C T cl X W es cs → andAll cs = some c → SndB C T cl X W (.BoolOp .And es pos) c
  | _, _, c, pos, .nil, h => by cases h
  | _, _, c, pos, .cons he .nil, h => by
    cases h
    exact ⟨pe_one he.v, pw_and1 he.t⟩
  | _, _, c, pos, .cons (c := c1) he (.cons (c := c2) (cs := cs) he2 hes), h => by
    obtain ⟨d, h1, h2⟩ := Option.map_eq_some_iff.mp (show (andAll (c2 :: cs)).map (.and_ c1) = some c from h)
    subst h2
    have ih := snd_and (pos := pos) (.cons he2 hes) h1
    refine ⟨(pe_and he.v ih.v).imp fun σ H Q q => ?_, (pw_and he.t ih.t).imp fun σ H Q q => ?_⟩
    · have z := boolAt_e (k := fun b => if b then evE C d else fun env => .ok (RV.f (.bool false)) env) (ev := evE C c1) (Q := Q) q
      obtain ⟨B, G, env, S, z⟩ := z
      refine ⟨B, G, env, S, z.mono fun r e G' H' _ _ k v rv => ?_⟩
      obtain ⟨b, e1, e2⟩ := k v rv
      refine ⟨b, e1, ?_⟩
      cases b with
      | true => exact e2
      | false => exact tex_bool e2
    · have z := boolAt_t (k := fun b => if b then evE C d else fun env => .ok (RV.f (.bool false)) env) (ev := evE C c1) (Q := Q) q
      obtain ⟨B, G, env, S, z⟩ := z
      refine ⟨B, G, env, S, z.mono fun b e G' H' _ _ k => ?_⟩
      cases b with
      | true => exact k
      | false => exact ttx_bool k
theorem snd_or : ∀ {es : List Expr} {cs : List CE} {c : CE} {pos : Pos}, SndL C T cl X W es cs → orAll cs = some c → SndB C T cl X W (.BoolOp .Or es pos) c
  | _, _, c, pos, .nil, h => by cases h
  | _, _, c, pos, .cons he .nil, h => by
    cases h
    exact ⟨pe_one he.v, pw_or1 he.t⟩
  | _, _, c, pos, .cons (c := c1) he (.cons (c := c2) (cs := cs) he2 hes), h => by
    obtain ⟨d, h1, h2⟩ := Option.map_eq_some_iff.mp (show (orAll (c2 :: cs)).map (.or_ c1) = some c from h)
    subst h2
    have ih := snd_or (pos := pos) (.cons he2 hes) h1
    refine ⟨(pe_or he.v ih.v).imp fun σ H Q q => ?_, (pw_or he.t ih.t).imp fun σ H Q q => ?_⟩
    · have z := boolAt_e (k := fun b => if b then (fun env => .ok (RV.f (.bool true)) env) else evE C d) (ev := evE C c1) (Q := Q) q
      obtain ⟨B, G, env, S, z⟩ := z
      refine ⟨B, G, env, S, z.mono fun r e G' H' _ _ k v rv => ?_⟩
      obtain ⟨b, e1, e2⟩ := k v rv
      refine ⟨b, e1, ?_⟩
      cases b with
      | true => exact tex_bool e2
      | false => exact e2
    · have z := boolAt_t (k := fun b => if b then (fun env => .ok (RV.f (.bool true)) env) else evE C d) (ev := evE C c1) (Q := Q) q
      obtain ⟨B, G, env, S, z⟩ := z
      refine ⟨B, G, env, S, z.mono fun b e G' H' _ _ k => ?_⟩
      cases b with
      | true => exact ttx_bool k
      | false => exact k
theorem SndB.snd {e : Expr} {c : CE} (h : SndB C T cl X W e c) (pl : plainE e = true) : Snd C T cl X W e c := ⟨pl, h.v, h.t.pt⟩
/-! ### chains -/
theorem rvr_laid {K : PySem.W.Frag} {B G G' H H' : Hp} {env : Env} {σ : L2.St} {v : V} {d : D} (S : R K T B G env σ H) (g : GF H G G' H') (h : RVR K B G env σ H v (.n d)) : RVR K B G' env σ H' v (.n d) := by
  have keep : ∀ {a : Addr} {o : HO}, H a = some o → G a = none → H' a = some o ∧ G' a = none := fun {a o} e1 e2 => ⟨g.hh _ _ e1, by
    cases z : G' a with
    | none => rfl
    | some u =>
      rcases g.new _ _ z with z | z
      · rw [e2] at z; cases z
      · rw [e1] at z; cases z⟩
  cases d with
  | list xs => obtain ⟨z, a, vs, e1, e2, e3, e4, e5, e6⟩ := h; exact ⟨z, a, vs, e1, (keep e2 e3).1, (keep e2 e3).2, e4, RpAll.mono g.gg _ _ e5, e6⟩
  | dict xs => obtain ⟨a, vs, e1, e2, e3, e4, e5, e6⟩ := h; exact ⟨a, vs, e1, (keep e2 e3).1, (keep e2 e3).2, e4, RpKv.mono g.gg _ _ e5, e6⟩
  | none => exact h.elim
  | bool _ => exact h.elim
  | int _ => exact h.elim
  | str _ => exact h.elim
  | tuple _ => exact h.elim
theorem snd_chn {op op' : CmpOp} {a b c : Expr} {pos : Pos} {ca cb cc : CE} {o p : O2} (ho : OpR X (compareOp op) (S2 X.K o)) (hp : OpR X (compareOp op') (S2 X.K p)) (hob : ∀ x y r, do2 o x y = some r → ∃ k, r = .bool k) (hpb : ∀ x y r, do2 p x y = some r → ∃ k, r = .bool k)
    (ha : Snd C T cl X W a ca) (hb : Snd C T cl X W b cb) (hc : Snd C T cl X W c cc) : Snd C T cl X W (.Compare a [op, op'] [b, c] pos) (.chn o p ca cb cc) := by
  have hm : lastMarks [op, op'] [b, c] = false := no_behind hc.pl op'
  have im : ∀ σ H Q, TEx X.K T W cl (evE C (.chn o p ca cb cc)) σ H Q → tChain (S2 X.K o) (S2 X.K p) (TEx X.K T W cl (evE C ca)) (TEx X.K T W cl (evE C cb)) (TEx X.K T W cl (evE C cc)) σ H Q := fun σ H Q q => by
    obtain ⟨B, G, env, S, h⟩ := q
    refine TEx.two S (show Fin X.K T W cl B G σ ((evE C ca env).bind fun r env => (evE C cb env).bind fun s env => match peek r env, peek s env with
      | some x, some y => match do2 o x y with
        | some (.bool true) => (evE C cc env).bind fun t env => match peek s env, peek t env with
          | some y, some z => match do2 p y z with
            | some d => .ok (RV.f d) env
            | none => .bad
          | _, _ => .bad
        | some (.bool false) => .ok (RV.f (.bool false)) env
        | _ => .bad
      | _, _ => .bad) _ from h) fun x y r s e G2 H2 g S2 rv rs h2 => ?_
    cases e1 : peek r e with
    | none => simp only [e1] at h2; exact h2.elim
    | some d1 =>
      cases e2 : peek s e with
      | none => simp only [e1, e2] at h2; exact h2.elim
      | some d2 =>
        cases e3 : do2 o d1 d2 with
        | none => simp only [e1, e2, e3] at h2; exact h2.elim
        | some d =>
          obtain ⟨k, rfl⟩ := hob _ _ _ e3
          refine ⟨G2, d1, d2, _, S2.gh, rv.pk S2 e1, rs.pk S2 e2, e3, fun v G' H' gf nw => ?_⟩
          cases nw
          simp only [e1, e2, e3] at h2
          refine ⟨k, rfl, ?_⟩
          have S2' := S2.laid gf
          have rs' : RVR X.K B G' e σ H' y s := by
            cases s with
            | f d => exact Rp.mono gf.gg _ _ rs
            | b i => exact rs
            | n d => exact rvr_laid S2 gf rs
          have h2' := Fin.grow h2 (gf.gx S2.bh)
          cases k with
          | false => exact (show Fin X.K T W cl B G' σ (.ok (RV.f (.bool false)) e) _ from h2').at S2' _ (.bl false)
          | true =>
            obtain ⟨B1, k1, S1', hold⟩ := rs'.held S2'
            have h3 : Fin X.K T W cl B G' σ ((evE C cc e).bind fun t env => match peek s env, peek t env with
              | some y, some z => match do2 p y z with
                | some d => .ok (RV.f d) env
                | none => .bad
              | _, _ => .bad) _ := h2'
            refine (TEx.of S1' ((h3.bind.weak k1).mono fun t e4 G4 H4 g4 S4 ⟨g5, S5, h5⟩ z rz => ?_) : TEx X.K T W cl (evE C cc) σ H' _)
            have ry := hold e4 G4 H4 g4 S4
            cases e6 : peek s e4 with
            | none => simp only [e6] at h5; exact h5.elim
            | some dy =>
              cases e7 : peek t e4 with
              | none => simp only [e6, e7] at h5; exact h5.elim
              | some dz =>
                cases e8 : do2 p dy dz with
                | none => simp only [e6, e7, e8] at h5; exact h5.elim
                | some r5 =>
                  simp only [e6, e7, e8] at h5
                  obtain ⟨k5, rfl⟩ := hpb _ _ _ e8
                  refine ⟨G4, dy, dz, _, S5.gh, ry.pk S5 e6, (rz.weak k1).pk S5 e7, e8, fun v G' H' gf nw => ?_⟩
                  cases nw
                  exact h5 _ _ (gf.gx S5.bh) (S5.laid gf) _ (.bl k5)
  exact ⟨rfl, (pe_chain ho hp ha.v hb.v hc.v hm).imp im, (pt_chain ho hp ha.v hb.v hc.v hm).imp fun σ H Q q => im σ H _ (TTx.tex q)⟩
end
end Core
end

section
set_option Elab.async false
set_option linter.all false
set_option maxRecDepth 100000
set_option autoImplicit false
set_option maxHeartbeats 400000
/-! Soundness 9d: slices, sorted(set(..)), list(range(..)), dict displays, index. -/
namespace Core
open PySem PySem.Spec PyProof.Rows L2
section
variable {C : Ctx} {T : List (Addr × Str)} {cl : Nat → Value} {X : L2.Cx} {W : WX}
/-! ### slices -/
/-- a part left out, or an expression -/
inductive SndO (C : Ctx) (T : List (Addr × Str)) (cl : Nat → Value) (X : L2.Cx) (W : WX) : Option Expr → List CE → Prop
  | none : SndO C T cl X W none []
  | some {e : Expr} {c : CE} : Snd C T cl X W e c → SndO C T cl X W (some e) [c]
def evP (C : Ctx) (cs : List CE) : Env → Out (Option Int) := fun env => (evEs C cs env).bind fun l env => Out.ofO (partD l) env
def TOx (T : List (Addr × Str)) (cl : Nat → Value) (K : PySem.W.Frag) (W : WX) (ev : Env → Out (Option Int)) : TO := fun σ H Q => ∃ B G env, R K T B G env σ H ∧ Fin K T W cl B G σ (ev env) fun o env' G' H' => Q o H'
theorem po_snd {e : Option Expr} {cs : List CE} (h : SndO C T cl X W e cs) : PO X e (TOx T cl X.K W (evP C cs)) := by
  cases h with
  | none =>
    refine ⟨fun pins s σ H Q I q => po_none.run pins s σ H Q I ?_⟩
    obtain ⟨B, G, env, S, q⟩ := q
    exact (show Fin X.K T W cl B G σ (.ok none env) _ from q).at S
  | @some e c he =>
    refine ⟨fun pins s σ H Q I q => (po_some he.v).run pins s σ H Q I ?_⟩
    obtain ⟨B, G, env, S, q⟩ := q
    have q : Fin X.K T W cl B G σ ((((evE C c env).bind frz).bind fun d env => (Out.ok [] env).bind fun ds env => .ok (d :: ds) env).bind fun l env => Out.ofO (partD l) env) _ := q
    rw [bind_assoc] at q
    refine TEx.frozen S q fun x d e G1 H1 g S1 rp h1 => ?_
    have h1 : Fin X.K T W cl B G1 σ (Out.ofO (partD [d]) e) (fun o env' G' H' => Q o H') := h1
    cases d with
    | int i =>
      cases rp
      exact ⟨i, rfl, (show Fin X.K T W cl B G1 σ (.ok (some i) e) (fun o env' G' H' => Q o H') from h1).at S1⟩
    | none => exact h1.elim
    | bool _ => exact h1.elim
    | str _ => exact h1.elim
    | list _ => exact h1.elim
    | tuple _ => exact h1.elim
    | dict _ => exact h1.elim
theorem snd_slc {a : Expr} {lo hi : Option Expr} {p2 pos : Pos} {ca : CE} {cl' ch : List CE} (ha : Snd C T cl X W a ca) (hl : SndO C T cl X W lo cl') (hh : SndO C T cl X W hi ch) : Snd C T cl X W (.Subscript a (.Slice lo hi none p2) pos) (.slc ca cl' ch) := by
  refine .plain rfl ((pe_slice ok_slice ha.v (po_snd hl) (po_snd hh)).imp fun σ H Q q => ?_) rfl
  obtain ⟨B, G, env, S, q⟩ := q
  refine TEx.one S (show Fin X.K T W cl B G σ ((evE C ca env).bind fun r env => (evP C cl' env).bind fun l env => (evP C ch env).bind fun h env => match (peek r env).bind (doSl · l h) with
    | some d => .ok (mk d) env
    | none => .bad) _ from q) fun x r e G1 H1 g S1 rv h1 => ?_
  obtain ⟨B1, k1, S1', hold⟩ := rv.held S1
  refine ⟨B1, G1, e, S1', (h1.bind.weak k1).mono fun l e2 G2 H2 g2 S2 ⟨g3, S3, h2⟩ => ?_⟩
  refine ⟨B1, G2, e2, S2, (h2.bind.weak k1).mono fun h e3 G3 H3 g4 S4 ⟨g5, S5, h3⟩ => ?_⟩
  have rx := hold e3 G3 H3 (g2.trans g4) S4
  cases e6 : peek r e3 with
  | none => simp only [e6, Option.bind] at h3; exact h3.elim
  | some d =>
    cases e7 : doSl d l h with
    | none => simp only [e6, Option.bind, e7] at h3; exact h3.elim
    | some d' =>
      simp only [e6, Option.bind, e7] at h3
      exact ⟨G3, d, d', S5.gh, rx.pk S5 e6, e7, fun v G' H' gf nw => h3 _ _ (gf.gx S5.bh) (S5.laid gf) v (rvr_mk S5 gf nw)⟩
/-! ### sorted(set(..)), list(range(..)) -/
theorem snd_sset {a : Expr} {p p2 q pos : Pos} {c : CE} (hu : X.A.units + 80 < cLine) (hc : X.calm = true) (hg : Gl X "sorted") (hm : X.mg "sorted" = none) (hg2 : Gl X "set") (hm2 : X.mg "set" = none) (ha : Snd C T cl X W a c) :
    Snd C T cl X W (.Call (.Name "sorted" p) [.Call (.Name "set" p2) [a] [] q] [] pos) (.o1 .sset c) := by
  refine .plain rfl ((pe_sset hu hc hg hm hg2 hm2 ha.v (star_cons ha.pl [] X.env)).imp fun σ H Q q => ?_) rfl
  obtain ⟨B, G, env, S, h⟩ := TEx.op1 q
  refine ⟨B, G, env, S, h.mono fun r e G' H' _ _ k v rv => ?_⟩
  obtain ⟨x, G2, d, r2, e1, h1, h2, h3, h4⟩ := k v rv
  cases e1
  exact sset_reads h1 h2 h3 h4
theorem rp_rng (K : PySem.W.Frag) (G : Hp) (lo : Int) (n : Nat) : RpAll K G ((List.range n).map fun (i : Nat) => V.int (lo + i)) (rngD lo n) := by
  unfold rngD
  induction List.range n with
  | nil => exact .nil
  | cons i is ih => exact .cons (.int _) ih
theorem snd_lrng {a : Expr} {p p2 q pos : Pos} {c : CE} (hc : X.calm = true) (hg : Gl X "list") (hm : X.mg "list" = none) (hg2 : Gl X "range") (hm2 : X.mg "range" = none) (ha : Snd C T cl X W a c) :
    Snd C T cl X W (.Call (.Name "list" p) [.Call (.Name "range" p2) [a] [] q] [] pos) (.o1 .lrng c) := by
  refine .plain rfl ((pe_listRg hc hg hm (prg_1 hg2 hm2 ha.v (star_cons ha.pl [] X.env)) rfl).imp fun σ H Q q => ?_) rfl
  obtain ⟨B, G, env, S, h⟩ := TEx.op1 q
  refine ⟨B, G, env, S, h.mono fun r e G' H' _ _ k v rv => ?_⟩
  obtain ⟨x, G2, d, r2, e1, h1, h2, h3, h4⟩ := k v rv
  cases e1
  cases d <;> simp only [do1] at h3 <;> first | cases h3 | skip
  rename_i n
  split at h3
  · rename_i hn
    cases h3
    simp only [Bool.and_eq_true, decide_eq_true_eq] at hn
    refine ⟨n, h2.int, ⟨by omega, by omega, by omega, by omega, by omega⟩, fun p hp => h4 _ _ _ (gf_new h1 hp) ?_⟩
    refine nw_list h1 hp ?_ ?_
    · unfold rngD lineMax
      rw [List.length_map, List.length_range]
      omega
    · have e : rgV 0 n = (List.range n.toNat).map fun (i : Nat) => V.int (0 + i) := by unfold rgV; rw [Int.sub_zero]
      rw [e]
      exact rp_rng _ _ 0 n.toNat
  · cases h3
/-! ### xs.index(x) -/
theorem snd_index {o : Str} {po : Pos} {a : Expr} {apos cpos : Pos} {co ca : CE} (hu : X.A.units + 65 < cLine) (hline : (apos.endLine == cpos.line) = true) (ho : Snd C T cl X W (.Name o po) co) (ha : Snd C T cl X W a ca) :
    Snd C T cl X W (.Call (.Attribute (.Name o po) "index" apos) [a] [] cpos) (.ixo co ca) := by
  have hfew : ((backTo cpos (starEach [a] X.env)).all (fun x => !x.1) && (backToKw cpos (keywordEach [] X.env)).all (fun x => x.1.isSome) && decide (([a] : List Expr).length + ([] : List Keyword).length + (if ([] : List Keyword).isEmpty then 0 else 1) < 30)) = true := by
    rw [star_cons ha.pl]; rfl
  refine .plain rfl ((pe_bm PySem.F.plainAttrs_list PySem.F.slot_list_index PySem.F.type_list_index (ok_index hu) ho.v (pa_cons ha.v pa_nil (star_cons ha.pl [] X.env)) rfl hfew hline (star_cons ha.pl [] X.env) rfl).imp fun σ H Q q => ?_) rfl
  obtain ⟨B, G, env, S, h⟩ := q
  refine TEx.one S (show Fin X.K T W cl B G σ ((evE C co env).bind fun r env => match peek r env with
    | some (.list _) => (evE C ca env).bind fun s env => match peek r env, peek s env with
      | some x, some y => match do2 .index x y with
        | some d => .ok (RV.f d) env
        | none => .bad
      | _, _ => .bad
    | _ => .bad) _ from h) fun x r e G1 H1 g S1 rv h1 => ?_
  cases e0 : peek r e with
  | none => simp only [e0] at h1; exact h1.elim
  | some d0 =>
    cases d0 <;> simp only [e0] at h1 <;> first | exact h1.elim | skip
    rename_i ds
    obtain ⟨a0, vs0, rfl, hl0, _⟩ := (rv.pk S1 e0).list S1.gh
    refine ⟨.inl ⟨rfl, vs0, hl0⟩, ?_⟩
    obtain ⟨B1, k1, S1', hold⟩ := rv.held S1
    refine TEx.of S1' ((h1.bind.weak k1).mono fun s e2 G2 H2 g2 S2 ⟨g3, S3, h2⟩ y rs => ?_)
    have rx := hold e2 G2 H2 g2 S2
    cases e1 : peek r e2 with
    | none => simp only [e1] at h2; exact h2.elim
    | some d =>
      cases e2' : peek s e2 with
      | none => simp only [e1, e2'] at h2; exact h2.elim
      | some d2 =>
        cases e3 : do2 .index d d2 with
        | none => simp only [e1, e2', e3] at h2; exact h2.elim
        | some d' =>
          simp only [e1, e2', e3] at h2
          refine ⟨y, rfl, G2, d, d2, d', S3.gh, rx.pk S3 e1, (rs.weak k1).pk S3 e2', e3, fun v G' H' gf nw => h2 _ _ (gf.gx S3.bh) (S3.laid gf) v ?_⟩
          have em : ∃ n, d' = .int n := by
            cases d <;> simp only [do2] at e3 <;> first | cases e3 | skip
            split at e3
            · obtain ⟨j, _, rfl⟩ := Option.map_eq_some_iff.mp e3
              exact ⟨_, rfl⟩
            · cases e3
          obtain ⟨n, rfl⟩ := em
          exact nw
/-! ### dict displays -/
theorem keyD_inj (k k' : Key) : keyD k = keyD k' ↔ k = k' := by
  constructor
  · intro h
    have := keyD_eqv k k'
    rw [h, keyD_eqv] at this
    exact (show k' = k by simpa using this.symm).symm
  · rintro rfl; rfl
/-- a store of a key -/
theorem put_rel {K : PySem.W.Frag} {G : Hp} {k : Key} {v : V} {d : D} (hk : Rp K G (kV k) (keyD k)) (hv : Rp K G v d) : ∀ {kvs : List (Key × V)} {ds : List (D × D)}, RpKv K G kvs ds → RpKv K G (putK kvs k v) (putD (keyD k) d ds) := by
  intro kvs ds r
  have hany : (kvs.any fun kv => decide (kv.1 = k)) = (ds.any fun p => PyData.eqv p.1 (keyD k)) := by
    induction kvs generalizing ds with
    | nil => cases r; rfl
    | cons p kvs ih =>
      cases r with
      | cons a b c => rw [List.any_cons, List.any_cons, keyD_eqv, ih c]
  have happ : ∀ {kvs : List (Key × V)} {ds : List (D × D)}, RpKv K G kvs ds → RpKv K G (kvs ++ [(k, v)]) (ds ++ [(keyD k, d)]) := by
    intro kvs
    induction kvs with
    | nil => intro ds r; cases r; exact .cons hk hv .nil
    | cons p kvs ih => intro ds r; cases r with | cons a b c => exact .cons a b (ih c)
  have hmap : ∀ {kvs : List (Key × V)} {ds : List (D × D)}, RpKv K G kvs ds → RpKv K G (kvs.map fun kv => if kv.1 = k then (kv.1, v) else kv) (ds.map fun p => if PyData.eqv p.1 (keyD k) then (p.1, d) else p) := by
    intro kvs
    induction kvs with
    | nil => intro ds r; cases r; exact .nil
    | cons p kvs ih =>
      intro ds r
      cases r with
      | cons a b c =>
        rename_i k' v' d' ds'
        rw [List.map_cons, List.map_cons]
        by_cases e : k' = k
        · rw [if_pos e, if_pos (by rw [keyD_eqv]; exact decide_eq_true e)]
          exact .cons a hv (ih c)
        · rw [if_neg e, if_neg (by rw [keyD_eqv, decide_eq_false e]; decide)]
          exact .cons a b (ih c)
  unfold putK putD
  rw [hany]
  split
  · exact hmap r
  · exact happ r
theorem rp_key {K : PySem.W.Frag} {G H : Hp} {d : D} {x : V} (h : keyOk d = true) (hx : Pk K G H x d) : ∃ k : Key, x = kV k ∧ d = keyD k ∧ ∀ G', Rp K G' (kV k) (keyD k) := by
  cases d <;> first | cases h | skip
  · exact ⟨.inl _, hx.int, rfl, fun G' => .int _⟩
  · exact ⟨.inr _, hx.str.1, rfl, fun G' => .str _ hx.str.2⟩
/-- a thing that was kept apart is written over -/
theorem R.write {K : PySem.W.Frag} {B B1 G H : Hp} {env : Env} {σ : L2.St} {p : Addr} {o o1 : HO} (S : R K T B1 G env σ H) (k : Same B B1) (eB : B p = none) (e1 : B1 p = some o1) (eG : G p = none) (nt : notTbl o1) (nx : ∀ φ, o1 ≠ .ext φ) : R K T B G env σ (upd H p o) := by
  have eH : H p = some o1 := S.bh _ _ e1
  have off : ∀ {b u}, G b = some u → b ≠ p := fun {b u} e z => by rw [z, eG] at e; cases e
  refine ⟨⟨fun q hq => ?_, fun q hq => none_of_same k (S.tab.b q hq), S.tab.g, fun a ps e => S.tab.bn a ps (k _ _ e), S.tab.gn⟩, S.len, fun b u e => by rw [upd_ne (off e)]; exact S.gh _ _ e, fun b u e => ?_, fun i s e => ?_, S.apart⟩
  · obtain ⟨ps, h1, h2, h3⟩ := S.tab.tabs q hq
    have ne : q.1 ≠ p := S.tab.ne eH nt hq
    refine ⟨ps, by rw [upd_ne ne]; exact h1, h2, fun pos cv hc => ?_⟩
    obtain ⟨c, e2, e3⟩ := h3 pos cv hc
    refine ⟨c, e2, ?_⟩
    rw [upd_ne (fun z => by rw [z, eH] at e3; exact nx _ (Option.some.inj e3))]
    exact e3
  · rw [upd_ne (fun z => by rw [z, eB] at e; cases e)]
    exact S.bh _ _ (k _ _ e)
  · have z := S.slot i s e
    cases s with
    | no => trivial
    | v d => exact z
    | o xs =>
      obtain ⟨zl, a, vs, q1, q2, q3, q4, q5⟩ := z
      have ne : a ≠ p := fun z => by rw [z, e1] at q4; cases q4
      exact ⟨zl, a, vs, q1, by rw [upd_ne ne]; exact q2, q3, none_of_same k q4, q5⟩
    | q xs =>
      obtain ⟨a, vs, q1, q2, q3, q4, q5⟩ := z
      have ne : a ≠ p := fun z => by rw [z, e1] at q4; cases q4
      exact ⟨a, vs, q1, by rw [upd_ne ne]; exact q2, q3, none_of_same k q4, q5⟩
/-- the pairs of a display -/
inductive SndP (C : Ctx) (T : List (Addr × Str)) (cl : Nat → Value) (X : L2.Cx) (W : WX) : List (Option Expr) → List Expr → List CE → Prop
  | nil : SndP C T cl X W [] [] []
  | cons {k v : Expr} {ks : List (Option Expr)} {vs : List Expr} {a b : CE} {cs : List CE} : Snd C T cl X W k a → Snd C T cl X W v b → SndP C T cl X W ks vs cs → SndP C T cl X W (some k :: ks) (v :: vs) (a :: b :: cs)
theorem compP_snd {f : Expr → Option CE} (h : ∀ e c, f e = some c → Snd C T cl X W e c) : ∀ {ks : List (Option Expr)} {vs : List Expr} {cs : List CE}, cPairs f ks vs = some cs → SndP C T cl X W ks vs cs
  | [], [], cs, e => by cases e; exact .nil
  | [], v :: vs, cs, e => by cases e
  | none :: ks, [], cs, e => by cases e
  | none :: ks, v :: vs, cs, e => by cases e
  | some k :: ks, [], cs, e => by cases e
  | some k :: ks, v :: vs, cs, e => by
    unfold cPairs at e
    split at e
    · rename_i h1 h2 h3
      cases e
      exact .cons (h _ _ h1) (h _ _ h2) (compP_snd h h3)
    · cases e
/-- a list of pairs of values, one after the other -/
inductive PR (K : PySem.W.Frag) (G : Hp) : List (V × V) → List D → Prop
  | nil : PR K G [] []
  | cons {x y : V} {d e : D} {ps : List (V × V)} {ds : List D} : Rp K G x d → Rp K G y e → PR K G ps ds → PR K G ((x, y) :: ps) (d :: e :: ds)
theorem PR.mono {K : PySem.W.Frag} {G G' : Hp} (s : Same G G') {ps : List (V × V)} {ds : List D} (h : PR K G ps ds) : PR K G' ps ds := by
  induction h with
  | nil => exact .nil
  | cons a b _ ih => exact .cons (Rp.mono s _ _ a) (Rp.mono s _ _ b) ih
theorem pps_snd {ks : List (Option Expr)} {vs : List Expr} {cs : List CE} {pos : Pos} (h : SndP C T cl X W ks vs cs) : ∃ trs, PPs X pos ks vs trs ∧ ks.length = vs.length ∧ ks.all (·.isSome) = true ∧
    ∀ (B G : Hp) (env : Env) (σ : L2.St) (H : Hp) (Q : List (V × V) → Hp → Prop), R X.K T B G env σ H → Fin X.K T W cl B G σ (evEs C cs env) (fun ds e G' H' => ∀ ps, PR X.K G' ps ds → ps.length = ks.length → Q ps H') → tPairs trs σ H Q := by
  induction h with
  | nil => exact ⟨_, pps_nil, rfl, rfl, fun B G env σ H Q S q => (show Fin X.K T W cl B G σ (.ok [] env) _ from q).at S [] .nil rfl⟩
  | @cons k v ks vs a b cs hk hv hr ih =>
    obtain ⟨trs, h1, h2, h3, h4⟩ := ih
    refine ⟨_, pps_cons hk.v hv.v h1, by rw [List.length_cons, List.length_cons, h2], by rw [List.all_cons, h3]; rfl, fun B G env σ H Q S q => ?_⟩
    refine TEx.frozen S (show Fin X.K T W cl B G σ (((evE C a env).bind frz).bind fun d env => ((((evE C b env).bind frz).bind fun d2 env => (evEs C cs env).bind fun ds env => .ok (d2 :: ds) env)).bind fun ds env => .ok (d :: ds) env) _ from q) fun x d e G1 H1 g1 S1 r1 q1 => ?_
    rw [bind_assoc] at q1
    refine TEx.frozen S1 q1 fun y d2 e2 G2 H2 g2 S2 r2 q2 => ?_
    have q2 : Fin X.K T W cl B G2 σ (((evEs C cs e2).bind fun ds env => .ok (d2 :: ds) env).bind fun ds env => .ok (d :: ds) env) _ := q2
    rw [bind_assoc] at q2
    exact h4 B G2 e2 σ H2 _ S2 (q2.bind.mono fun ds e3 G3 H3 g3 S3 q3 ps rp hl => q3.at S3 _ (.cons (Rp.mono (g2.same.trans g3.same) _ _ r1) (Rp.mono g3.same _ _ r2) rp) (by rw [List.length_cons, List.length_cons, hl]))
theorem merge_rel {K : PySem.W.Frag} {G H : Hp} (e : Same G H) : ∀ {ps : List (V × V)} {ds : List D} {dp : List (D × D)}, PR K G ps ds → pairsOf ds = some dp → dp.all (fun p => keyOk p.1) = true →
    ∃ kvs : List (Key × V), ps = kvs.map (fun kv => (kV kv.1, kv.2)) ∧ ∀ {acc : List (Key × V)} {ad : List (D × D)}, RpKv K G acc ad → RpKv K G (mergeK acc kvs) (dp.foldl (fun m p => putD p.1 p.2 m) ad)
  | _, _, dp, .nil, h, _ => by cases h; exact ⟨[], rfl, fun r => r⟩
  | _, _, dp, .cons (x := x) (y := y) (d := d) (e := e') (ps := ps) (ds := ds) a b r, h, hk => by
    obtain ⟨dq, h1, rfl⟩ := Option.map_eq_some_iff.mp (show (pairsOf ds).map ((d, e') :: ·) = some dp from h)
    rw [List.all_cons, Bool.and_eq_true] at hk
    obtain ⟨k, rfl, e2, hr⟩ := rp_key hk.1 (.rp a : Pk K G H x d)
    have e2 : d = keyD k := e2
    subst e2
    obtain ⟨kvs, rfl, ih⟩ := merge_rel e r h1 hk.2
    exact ⟨(k, y) :: kvs, rfl, fun r => ih (put_rel (hr G) b r)⟩
theorem snd_dct {ks : List (Option Expr)} {vs : List Expr} {cs : List CE} {pos : Pos} (h0 : 0 < ks.length) (h15 : ks.length ≤ 15) (h : SndP C T cl X W ks vs cs) : Snd C T cl X W (.Dict ks vs pos) (.dct cs) := by
  obtain ⟨trs, h1, h2, h3, h4⟩ := pps_snd (pos := pos) h
  refine .plain rfl ((pe_disp h1 h3 h2 (by intro z; rw [z] at h0; cases h0) h15).imp fun σ H Q q => ?_) rfl
  obtain ⟨B, G, env, S, q⟩ := q
  intro p hp
  have q : Fin X.K T W cl B G σ ((evEs C cs env).bind fun ds env => match pairsOf ds with
    | some ps => if ps.all (fun p => keyOk p.1) then .ok (RV.n (.dict (ps.foldl (fun m p => putD p.1 p.2 m) []))) env else .bad
    | none => .bad) _ := q
  have eB : B p = none := none_of_same S.bh hp
  have eG : G p = none := none_of_same S.gh hp
  have gf := gf_new (o := .dK []) S.gh hp
  have S0 := S.laid gf
  have k1 : Same B (upd B p (.dK [])) := fun b o e => by rw [upd_ne (fun z => by rw [z, eB] at e; cases e)]; exact e
  have S1 : R X.K T (upd B p (.dK [])) G env σ (upd H p (.dK [])) := by
    refine S0.more (fun b o e => ?_) (fun i a o => ?_) (S0.tab.updB (o := .dK []) upd_same (fun _ z => by cases z))
    · by_cases z : b = p
      · subst z; rw [upd_same] at e ⊢; exact e
      · rw [upd_ne z] at e; exact S0.bh _ _ e
    · have ne : a ≠ p := fun z => by
        obtain ⟨_, _, u, e1, _⟩ := S.own o
        rw [z, hp] at e1; cases e1
      rw [upd_ne ne]; exact (S.own o).2.1
  refine h4 (upd B p (.dK [])) G env σ (upd H p (.dK [])) _ S1 ((q.bind.weak k1).mono fun ds e G2 H2 g2 S2 ⟨g3, S3, q2⟩ ps rp hl => ?_)
  have hp2 : H2 p = some (.dK []) := S2.bh _ _ upd_same
  have eG2 : G2 p = none := by
    cases z : G2 p with
    | none => rfl
    | some u =>
      rcases g2.new _ _ z with z | z
      · rw [eG] at z; cases z
      · rw [upd_same] at z; cases z
  refine ⟨hp2, ?_⟩
  cases e1 : pairsOf ds with
  | none => rw [e1] at q2; exact q2.elim
  | some dp =>
    simp only [e1] at q2
    by_cases hk : dp.all (fun p => keyOk p.1) = true
    · rw [if_pos hk] at q2
      obtain ⟨kvs, rfl, hm⟩ := merge_rel S3.gh rp e1 hk
      rw [List.length_map] at hl
      refine ⟨kvs, rfl, by omega, ?_⟩
      have Sw : R X.K T B G2 e σ (upd H2 p (.dK (mergeK [] kvs))) := S2.write k1 eB upd_same eG2 (fun _ z => by cases z) (fun _ z => by cases z)
      refine q2 G2 _ (GX.refl B G2) Sw _ ⟨p, _, rfl, upd_same, eG2, eB, hm .nil, fun i o => ?_⟩
      have z := (S2.own o).2.1
      rw [upd_same] at z; cases z
    · rw [if_neg hk] at q2; exact q2.elim
end
end Core
end

section
set_option Elab.async false
set_option linter.all false
set_option maxRecDepth 100000
set_option autoImplicit false
set_option maxHeartbeats 400000
/-! Soundness 9e: targets; what is walked. -/
namespace Core
open PySem PySem.Spec PyProof.Rows L2
section
variable {C : Ctx} {T : List (Addr × Str)} {cl : Nat → Value} {X : L2.Cx} {W : WX} {K : PySem.W.Frag} {B G H : Hp} {σ : L2.St} {env : Env}
/-! ### slots written -/
theorem R.setV {i : Nat} {v : V} {d : D} (S : R K T B G env σ H) (h : Rp K G v d) : R K T B G (env.set i (.v d)) (σ.set i (some v)) H := by
  have up : ∀ {j : Nat} {s : Sl}, j ≠ i → (env.set i (.v d))[j]? = some s → env[j]? = some s ∧ (σ.set i (some v))[j]? = σ[j]? := fun {j s} ne e => by
    rw [List.getElem?_set_ne (Ne.symm ne)] at e
    exact ⟨e, List.getElem?_set_ne (Ne.symm ne)⟩
  have own : ∀ {j : Nat} {a : Addr}, ownAt (env.set i (.v d)) (σ.set i (some v)) j a → ownAt env σ j a := fun {j a} ⟨⟨s, e, k⟩, z⟩ => by
    by_cases ne : j = i
    · subst ne
      have hi : j < env.length := by
        have := (List.getElem?_eq_some_iff.mp e).1
        rwa [List.length_set] at this
      rw [List.getElem?_set_self hi] at e
      cases e; cases k
    · obtain ⟨e1, e2⟩ := up ne e
      exact ⟨⟨s, e1, k⟩, e2 ▸ z⟩
  refine ⟨S.tab, by rw [List.length_set, List.length_set]; exact S.len, S.gh, S.bh, fun j s e => ?_, fun j k a o1 o2 => S.apart j k a (own o1) (own o2)⟩
  by_cases ne : j = i
  · subst ne
    have hi : j < env.length := by
      have := (List.getElem?_eq_some_iff.mp e).1
      rwa [List.length_set] at this
    rw [List.getElem?_set_self hi] at e
    cases e
    exact ⟨v, List.getElem?_set_self (by rw [← S.len]; exact hi), h⟩
  · obtain ⟨e1, e2⟩ := up ne e
    have z := S.slot j s e1
    cases s with
    | no => trivial
    | v d' => obtain ⟨w, q1, q2⟩ := z; exact ⟨w, e2.trans q1, q2⟩
    | o xs => obtain ⟨zl, a, vs, q1, q⟩ := z; exact ⟨zl, a, vs, e2.trans q1, q⟩
    | q xs => obtain ⟨a, vs, q1, q⟩ := z; exact ⟨a, vs, e2.trans q1, q⟩
/-! ### targets -/
theorem assign_cons {e : Expr} (h : plainE e = true) (es : List Expr) (env : PySem.Env) : assignEach (e :: es) env = (false, assign e env) :: assignEach es env := by
  cases e <;> first | rfl | cases h
/-- behind a store to a target: the names' slots alone are others -/
def Aft (T : List (Addr × Str)) (K : PySem.W.Frag) (B G : Hp) (env' : Env) (is : List Nat) (σ : L2.St) (H : Hp) (σ' : L2.St) : Prop := R K T B G env' σ' H ∧ σ'.length = σ.length ∧ ∀ i, i ∉ is → σ'[i]? = σ[i]?
def gTx (T : List (Addr × Str)) (K : PySem.W.Frag) (t : Core.TG) : L2.TG := fun x σ H Q => ∃ B G env d env', R K T B G env σ H ∧ Rp K G x d ∧ bindT t d env = some env' ∧ ∀ σ', Aft T K B G env' (tgNames t) σ H σ' → Q σ' H
def gTxs (T : List (Addr × Str)) (K : PySem.W.Frag) (ts : List Core.TG) : TGs := fun xs σ H Q => ∃ B G env ds env', R K T B G env σ H ∧ RpAll K G xs ds ∧ bindTs ts ds env = some env' ∧ ∀ σ', Aft T K B G env' (tgAll ts) σ H σ' → Q σ' H
theorem _root_.L2.PG.imp {X : L2.Cx} {e : Expr} {t t' : L2.TG} (h : PG X e t) (i : ∀ x σ H Q, t' x σ H Q → t x σ H Q) : PG X e t' := ⟨fun pins s σ H v u Q I r hw => h.run pins s σ H v u Q I r (i v σ H Q hw)⟩
theorem _root_.L2.PGs.imp {X : L2.Cx} {e : List Expr} {t t' : TGs} (h : PGs X e t) (i : ∀ x σ H Q, t' x σ H Q → t x σ H Q) : PGs X e t' := ⟨fun pins s σ H v u Q I r hw => h.run pins s σ H v u Q I r (i v σ H Q hw)⟩
theorem bindTs_len : ∀ {ts : List Core.TG} {ds : List D} {env env' : Env}, bindTs ts ds env = some env' → ds.length = ts.length
  | [], [], _, _, _ => rfl
  | [], _ :: _, _, _, h => by cases h
  | _ :: _, [], _, _, h => by cases h
  | t :: ts, d :: ds, env, env', h => by
    unfold bindTs at h
    split at h
    · rw [List.length_cons, List.length_cons, bindTs_len h]
    · cases h
/-- what a store needs of the context -/
structure StOk (X : L2.Cx) (cx : CCx) : Prop where
  N : X.N = cx.N
  nd : X.N.Nodup
  sc : X.env.scope = cx.sc
  calm : X.calm = true
  fn : ∀ x, cx.cel.contains x = true → X.fn x = true
theorem idx_get {N : List Str} {x : Str} {i : Nat} (h : Core.idx N x = some i) : N[i]? = some x := by
  unfold Core.idx at h
  obtain ⟨h1, h2, _⟩ := List.findIdx?_eq_some_iff_getElem.mp h
  rw [List.getElem?_eq_getElem h1]
  exact congrArg some (eq_of_beq h2)
theorem own_ok {cx : CCx} (S : StOk X cx) {x : Str} {i : Nat} (h : cx.own x = some i) : X.N[i]? = some x ∧ Loc X.env.scope x ∧ (X.fn x = true ∨ X.env.scope.names.lookup x = some .local) := by
  unfold CCx.own at h
  rw [← S.sc, ← S.N] at h
  split at h
  · rename_i e
    exact ⟨idx_get h, .inl e, .inr e⟩
  · rename_i e
    split at h
    · rename_i hc
      exact ⟨idx_get h, .inr e, .inl (S.fn x hc)⟩
    · cases h
  · cases h
theorem pg_own {cx : CCx} (S : StOk X cx) {x : Str} {i : Nat} {pos : Pos} (h : cx.own x = some i) : PG X (.Name x pos) (gTx T X.K (.nm i)) := by
  obtain ⟨h1, h2, h3⟩ := own_ok S h
  refine (pg_name S.nd h1 h2 h3).imp fun v σ H Q q => ?_
  obtain ⟨B, G, env, d, env', R0, rp, hb, q⟩ := q
  cases hb
  exact q _ ⟨R0.setV rp, List.length_set, fun j hj => List.getElem?_set_ne (fun z => hj (by unfold tgNames; rw [z]; exact List.mem_singleton.mpr rfl))⟩
theorem compT_plain : ∀ {n : Nat} {cx : CCx} {e : Expr} {t : Core.TG}, compT n cx e = some t → plainE e = true
  | 0, cx, e, t, h => by cases h
  | n + 1, cx, e, t, h => by
    cases e <;> first | rfl | cases h
theorem compL_cons {α : Type} {f : Expr → Option α} {e : Expr} {es : List Expr} {cs : List α} (h : compL f (e :: es) = some cs) : ∃ c cr, f e = some c ∧ compL f es = some cr ∧ cs = c :: cr := by
  unfold compL at h
  split at h
  · rename_i h1 h2
    cases h
    exact ⟨_, _, h1, h2, rfl⟩
  · cases h
mutual
theorem pg_all {cx : CCx} (S : StOk X cx) : ∀ {n : Nat} {e : Expr} {t : Core.TG}, compT n cx e = some t → PG X e (gTx T X.K t)
  | 0, e, t, h => by cases h
  | n + 1, .Name x pos, t, h => by
    unfold compT at h
    split at h
    · rename_i i e
      split at h
      · cases h
      · cases h
        exact pg_own S e
    · cases h
  | n + 1, .Tuple es k pos, t, h => by
    unfold compT at h
    obtain ⟨ts, h1, rfl⟩ := Option.map_eq_some_iff.mp h
    have hp : ∀ {es : List Expr} {ts : List Core.TG}, compL (compT n cx) es = some ts → (assignEach es X.env).length = ts.length ∧ (assignEach es X.env).findIdx? (·.1) = none := by
      intro es
      induction es with
      | nil => intro ts h; cases h; exact ⟨rfl, rfl⟩
      | cons e es ih =>
        intro ts h
        obtain ⟨c, cr, a1, a2, rfl⟩ := compL_cons h
        obtain ⟨b1, b2⟩ := ih a2
        rw [assign_cons (compT_plain a1)]
        refine ⟨by rw [List.length_cons, List.length_cons, b1], ?_⟩
        rw [List.findIdx?_cons, b2]; rfl
    refine (pg_tup (n := ts.length) S.calm (pgs_all S h1) (hp h1).1 (hp h1).2).imp fun v σ H Q q => ?_
    obtain ⟨B, G, env, d, env', R0, rp, hb, q⟩ := q
    cases d <;> first | (unfold bindT at hb; cases hb) | skip
    rename_i ds
    obtain ⟨a, vs, rfl, a1, a2, a3, a4⟩ := (Pk.rp rp : Pk X.K G H v (.tuple ds)).tuple R0.gh
    have hb : bindTs ts ds env = some env' := by unfold bindT at hb; exact hb
    exact ⟨a, vs, rfl, a1, by rw [a3.length, bindTs_len hb], B, G, env, ds, env', R0, a3, hb, fun σ' k => q σ' k⟩
theorem pgs_all {cx : CCx} (S : StOk X cx) : ∀ {n : Nat} {es : List Expr} {ts : List Core.TG}, compL (compT n cx) es = some ts → PGs X es (gTxs T X.K ts)
  | n, [], ts, h => by
    cases h
    refine pgs_nil.imp fun vs σ H Q q => ?_
    obtain ⟨B, G, env, ds, env', R0, rp, hb, q⟩ := q
    cases ds with
    | nil =>
      cases rp
      cases hb
      exact ⟨rfl, q σ ⟨R0, rfl, fun _ _ => rfl⟩⟩
    | cons d ds => cases hb
  | n, e :: es, ts, h => by
    obtain ⟨c, cr, a1, a2, rfl⟩ := compL_cons h
    refine (pgs_cons (pg_all S a1) (pgs_all S a2) (by rw [assign_cons (compT_plain a1)]; rfl)).imp fun vs σ H Q q => ?_
    obtain ⟨B, G, env, ds, env', R0, rp, hb, q⟩ := q
    cases ds with
    | nil => cases hb
    | cons d ds =>
      cases rp with
      | cons r1 r2 =>
        rename_i v vs
        unfold bindTs at hb
        split at hb
        · rename_i env1 h1
          refine ⟨v, vs, rfl, B, G, env, d, env1, R0, r1, h1, fun σ1 k1 => ⟨B, G, env1, ds, env', k1.1, r2, hb, fun σ2 k2 => q σ2 ⟨k2.1, k2.2.1.trans k1.2.1, fun i hi => ?_⟩⟩⟩
          rw [k2.2.2 i (fun z => hi (List.mem_append_right _ z)), k1.2.2 i (fun z => hi (List.mem_append_left _ z))]
        · cases hb
end
/-! ### what is walked -/
/-- the walk J gives the data ds -/
def WalksD (K : PySem.W.Frag) (G : Hp) (ds : List D) (J : It) : Prop := ∀ i G1 H1, Same G G1 → Same G1 H1 → (i = ds.length → J.stop i H1) ∧ ∀ d, ds[i]? = some d → J.go i H1 ∧ ∀ x H2, J.yld i H1 x H2 → ∃ G2, GF H1 G1 G2 H2 ∧ Rp K G2 x d
def TIx (T : List (Addr × Str)) (cl : Nat → Value) (K : PySem.W.Frag) (W : WX) (ev : Env → Out (List D)) : TI := fun σ H Rr => ∃ B G env, R K T B G env σ H ∧ Fin K T W cl B G σ (ev env) fun ds env' G' H' => ds.length ≤ lineMax → ∀ J, WalksD K G' ds J → Rr J H'
/-- a list, or a tuple -/
def iSeqX (K : PySem.W.Frag) (tl : TE) : TI := fun σ H R => tl σ H fun x H1 => ∃ a xs, x = .ref a ∧ ((SqL K H1 a xs ∧ R (Itl K a) H1) ∨ (SqT K H1 a xs ∧ R (Itt K a) H1))
theorem pi_seqX {tg l : Expr} {tl : TE} (hl : PE X l tl) : PI X tg l (iSeqX X.K tl) := by
  refine ⟨fun pins s σ H R I h => thn (hl.run pins s σ H _ I h) fun v s1 ⟨x, H1, I1, r1, a, xs, e, q⟩ => ?_⟩
  subst e
  cases r1
  have fr : ∀ b ∈ [s1.heap.objs.size], FpOk X pins H1 b := fun b hb => by
    rw [List.mem_singleton.mp hb]
    exact I1.fpOk (Nat.le_refl _) (I1.hok.fresh (Nat.le_refl _))
  rcases q with ⟨hq, q⟩ | ⟨hq, q⟩
  · obtain ⟨its, _, p, _⟩ := I1.list hq
    exact wpAny_pyIter_list p.isList ⟨s1.heap.objs.size, [s1.heap.objs.size], _, _, H1, rfl, I1.kept (t' := s1.toks) fun b o e => Heap.get?_push_of_some _ e, turn_list a _, ⟨_, Heap.get?_push_size _ rfl, rfl, rfl⟩, fr, q⟩
  · obtain ⟨its, _, p, _⟩ := I1.tuple hq
    exact wpAny_pyIter_tuple (show s1.heap.IsTuple a its.toArray from p) ⟨s1.heap.objs.size, [s1.heap.objs.size], _, _, H1, rfl, I1.kept (t' := s1.toks) fun b o e => Heap.get?_push_of_some _ e, turn_tuple a _, ⟨_, Heap.get?_push_size _ rfl, rfl, rfl⟩, fr, q⟩
theorem SqT.mono {H' : Hp} {a : Addr} {xs : List V} (e : Same H H') (h : SqT K H a xs) : SqT K H' a xs := Same.seqT e h
theorem Rd.mono' {H' : Hp} {a : Addr} {o : HO} (e : Same H H') (h : Rd H a o) : Rd H' a o := by
  rcases h with h | ⟨ob, h⟩
  · exact .inl (e _ _ h)
  · exact .inr ⟨ob, e _ _ h⟩
theorem at_rel {vs : List V} {ds : List D} (r : RpAll K G vs ds) {i : Nat} {d : D} (h : ds[i]? = some d) : ∃ v, vs[i]? = some v ∧ Rp K G v d := r.get h
theorem walks_list {a : Addr} {vs : List V} {ds : List D} (h : SqL K G a vs) (r : RpAll K G vs ds) : WalksD K G ds (Itl K a) := fun i G1 H1 e1 e2 => by
  have h1 : SqL K H1 a vs := Same.seqL (e1.trans e2) h
  refine ⟨fun z => ⟨vs, h1, by rw [z, r.length]; exact Nat.le_refl _⟩, fun d hd => ?_⟩
  obtain ⟨v, hv, rv⟩ := at_rel r hd
  refine ⟨⟨vs, v, h1, hv⟩, fun x H2 y => ?_⟩
  obtain ⟨rfl, y⟩ := y
  have z := y vs h1
  rw [hv] at z; cases z
  exact ⟨G1, GF.refl e2, Rp.mono e1 _ _ rv⟩
theorem walks_tup {a : Addr} {vs : List V} {ds : List D} (h : SqT K G a vs) (r : RpAll K G vs ds) : WalksD K G ds (Itt K a) := fun i G1 H1 e1 e2 => by
  have h1 : SqT K H1 a vs := SqT.mono (e1.trans e2) h
  refine ⟨fun z => ⟨vs, h1, by rw [z, r.length]; exact Nat.le_refl _⟩, fun d hd => ?_⟩
  obtain ⟨v, hv, rv⟩ := at_rel r hd
  refine ⟨⟨vs, v, h1, hv⟩, fun x H2 y => ?_⟩
  obtain ⟨rfl, y⟩ := y
  have z := y vs h1
  rw [hv] at z; cases z
  exact ⟨G1, GF.refl e2, Rp.mono e1 _ _ rv⟩
theorem walks_rng (lo : Int) (n : Nat) : WalksD K G (rngD lo n) (Itr lo n) := fun i G1 H1 e1 e2 => by
  have hl : (rngD lo n).length = n := by unfold rngD; rw [List.length_map, List.length_range]
  refine ⟨fun z => by rw [hl] at z; exact Nat.le_of_eq z.symm, fun d hd => ?_⟩
  have hi : i < n := by rw [← hl]; exact (List.getElem?_eq_some_iff.mp hd).1
  refine ⟨hi, fun x H2 y => ?_⟩
  obtain ⟨rfl, rfl⟩ := y
  have hd2 : d = .int (lo + i) := by
    unfold rngD at hd
    rw [List.getElem?_map, List.getElem?_range hi] at hd
    exact (Option.some.inj hd).symm
  rw [hd2]
  exact ⟨G1, GF.refl e2, .int _⟩
theorem enuD_get : ∀ (ds : List D) (n i : Nat), (enuD n ds)[i]? = (ds[i]?).map fun d => .tuple [.int ((n + i : Nat) : Int), d]
  | [], n, i => by simp [enuD]
  | d :: ds, n, 0 => by simp [enuD]
  | d :: ds, n, i + 1 => by
    show (enuD (n + 1) ds)[i]? = _
    rw [enuD_get ds (n + 1) i]
    have : n + 1 + i = n + (i + 1) := by omega
    rw [this]
    rfl
theorem enuD_len : ∀ (ds : List D) (n : Nat), (enuD n ds).length = ds.length
  | [], n => rfl
  | d :: ds, n => by
    show (enuD (n + 1) ds).length + 1 = ds.length + 1
    rw [enuD_len ds]
theorem pair_rp {G1 H1 : Hp} {p : Addr} {x y : V} {d e : D} (s : Same G1 H1) (hp : H1 p = none) (a : Rp K G1 x d) (b : Rp K G1 y e) : ∃ G2, GF H1 G1 G2 (upd H1 p (.tup [x, y])) ∧ Rp K G2 (.ref p) (.tuple [d, e]) :=
  ⟨_, gf_tup s hp, .tup (SqT.of upd_same) (by show 2 ≤ lineMax; decide) (.cons (Rp.mono (same_tup s hp) _ _ a) (.cons (Rp.mono (same_tup s hp) _ _ b) .nil))⟩
theorem walks_enuL {a : Addr} {vs : List V} {ds : List D} (h : SqL K G a vs) (r : RpAll K G vs ds) : WalksD K G (enuD 0 ds) (Ite K a) := fun i G1 H1 e1 e2 => by
  have h1 : SqL K H1 a vs := Same.seqL (e1.trans e2) h
  refine ⟨fun z => ⟨vs, h1, by rw [z, enuD_len, r.length]; exact Nat.le_refl _⟩, fun d hd => ?_⟩
  rw [enuD_get] at hd
  obtain ⟨d', h2, rfl⟩ := Option.map_eq_some_iff.mp hd
  obtain ⟨v, hv, rv⟩ := at_rel r h2
  refine ⟨⟨vs, v, h1, hv⟩, fun x H2 y => ?_⟩
  obtain ⟨p, x', rfl, hp, rfl, y⟩ := y
  have z := y vs h1
  rw [hv] at z; cases z
  rw [Nat.zero_add]
  exact pair_rp e2 hp (.int _) (Rp.mono e1 _ _ rv)
theorem walks_enuT {a : Addr} {vs : List V} {ds : List D} (h : SqT K G a vs) (r : RpAll K G vs ds) : WalksD K G (enuD 0 ds) (IteT K a) := fun i G1 H1 e1 e2 => by
  have h1 : SqT K H1 a vs := SqT.mono (e1.trans e2) h
  refine ⟨fun z => ⟨vs, h1, by rw [z, enuD_len, r.length]⟩, fun d hd => ?_⟩
  rw [enuD_get] at hd
  obtain ⟨d', h2, rfl⟩ := Option.map_eq_some_iff.mp hd
  obtain ⟨v, hv, rv⟩ := at_rel r h2
  refine ⟨⟨vs, v, h1, hv⟩, fun x H2 y => ?_⟩
  obtain ⟨p, x', rfl, hp, rfl, y⟩ := y
  have z := y vs h1
  rw [hv] at z; cases z
  rw [Nat.zero_add]
  exact pair_rp e2 hp (.int _) (Rp.mono e1 _ _ rv)
theorem zipD_get : ∀ (xs ys : List D) (i : Nat), (zipD xs ys)[i]? = match xs[i]?, ys[i]? with | some x, some y => some (.tuple [x, y]) | _, _ => none
  | [], ys, i => by cases ys <;> simp [zipD]
  | x :: xs, [], i => by
    simp [zipD]
  | x :: xs, y :: ys, 0 => by simp [zipD]
  | x :: xs, y :: ys, i + 1 => by
    show (zipD xs ys)[i]? = _
    rw [zipD_get xs ys i]
    rfl
theorem zipD_len : ∀ (xs ys : List D), (zipD xs ys).length = min xs.length ys.length
  | [], ys => by cases ys <;> simp [zipD]
  | x :: xs, [] => by simp [zipD]
  | x :: xs, y :: ys => by
    show (zipD xs ys).length + 1 = _
    rw [zipD_len xs ys, List.length_cons, List.length_cons]
    omega
theorem zip_both {xs ys : List D} {i : Nat} {d : D} (h : (zipD xs ys)[i]? = some d) : ∃ x y, xs[i]? = some x ∧ ys[i]? = some y ∧ d = .tuple [x, y] := by
  rw [zipD_get] at h
  cases e1 : xs[i]? with
  | none => rw [e1] at h; cases h
  | some x =>
    cases e2 : ys[i]? with
    | none => rw [e1, e2] at h; cases h
    | some y => rw [e1, e2] at h; cases h; exact ⟨x, y, rfl, rfl, rfl⟩
theorem walks_zipL {a b : Addr} {vs ws : List V} {ds es : List D} (h : SqL K G a vs) (r : RpAll K G vs ds) (h' : SqL K G b ws) (r' : RpAll K G ws es) : WalksD K G (zipD ds es) (Itz K a b) := fun i G1 H1 e1 e2 => by
  have h1 : SqL K H1 a vs := Same.seqL (e1.trans e2) h
  have h2 : SqL K H1 b ws := Same.seqL (e1.trans e2) h'
  refine ⟨fun z => ⟨vs, ws, h1, h2, by rw [z, zipD_len, r.length, r'.length]; omega⟩, fun d hd => ?_⟩
  obtain ⟨x, y, q1, q2, rfl⟩ := zip_both hd
  obtain ⟨v, hv, rv⟩ := at_rel r q1
  obtain ⟨w, hw, rw'⟩ := at_rel r' q2
  refine ⟨⟨vs, ws, v, w, h1, h2, hv, hw⟩, fun x H2 y => ?_⟩
  obtain ⟨p, x', y', rfl, hp, rfl, y1, y2⟩ := y
  have z := y1 vs h1
  rw [hv] at z; cases z
  have z := y2 ws h2
  rw [hw] at z; cases z
  exact pair_rp e2 hp (Rp.mono e1 _ _ rv) (Rp.mono e1 _ _ rw')
theorem walks_zipT {a b : Addr} {vs ws : List V} {ds es : List D} (h : SqT K G a vs) (r : RpAll K G vs ds) (h' : SqT K G b ws) (r' : RpAll K G ws es) : WalksD K G (zipD ds es) (RZ.ItzT K a b) := fun i G1 H1 e1 e2 => by
  have h1 : SqT K H1 a vs := SqT.mono (e1.trans e2) h
  have h2 : SqT K H1 b ws := SqT.mono (e1.trans e2) h'
  refine ⟨fun z => ⟨vs, ws, h1, h2, by rw [z, zipD_len, r.length, r'.length]; omega⟩, fun d hd => ?_⟩
  obtain ⟨x, y, q1, q2, rfl⟩ := zip_both hd
  obtain ⟨v, hv, rv⟩ := at_rel r q1
  obtain ⟨w, hw, rw'⟩ := at_rel r' q2
  refine ⟨⟨vs, ws, v, w, h1, h2, hv, hw⟩, fun x H2 y => ?_⟩
  obtain ⟨p, x', y', rfl, hp, rfl, y1, y2⟩ := y
  have z := y1 vs h1
  rw [hv] at z; cases z
  have z := y2 ws h2
  rw [hw] at z; cases z
  exact pair_rp e2 hp (Rp.mono e1 _ _ rv) (Rp.mono e1 _ _ rw')
end
end Core
end

section
set_option Elab.async false
set_option linter.all false
set_option maxRecDepth 100000
set_option autoImplicit false
set_option maxHeartbeats 400000
/-! Soundness 9f: iterables; comprehensions. -/
namespace Core
open PySem PySem.Spec PyProof.Rows L2
section
variable {C : Ctx} {T : List (Addr × Str)} {cl : Nat → Value} {X : L2.Cx} {W : WX} {K : PySem.W.Frag} {B G H : Hp} {σ : L2.St} {env : Env}
/-- an iterable and its core term -/
def SndI (C : Ctx) (T : List (Addr × Str)) (cl : Nat → Value) (X : L2.Cx) (W : WX) (tg e : Expr) (it : IT) : Prop := PI X tg e (TIx T cl X.K W (evI C it)) ∧ plainE e = true
theorem rd_at {x : V} {ds : List D} (s : Same G H) (rp : Rp K G x (.list ds)) : ∃ a vs, x = .ref a ∧ SqL K H a vs ∧ SqL K G a vs ∧ RpAll K G vs ds ∧ ds.length ≤ lineMax := by
  cases rp with
  | lst q1 q2 q3 => exact ⟨_, _, rfl, Same.seqL s q1, q1, q3, q2⟩
theorem sndi_seq {tg e : Expr} {c : CE} (h : Snd C T cl X W e c) : SndI C T cl X W tg e (.seq c) := by
  refine ⟨(pi_seqX h.v).imp fun σ H Q q => ?_, h.pl⟩
  obtain ⟨B, G, env, S, q⟩ := q
  refine TEx.frozen S (show Fin X.K T W cl B G σ (((evE C c env).bind frz).bind fun d env => Out.ofO (walkItems d) env) _ from q) fun x d e G1 H1 g S1 rp h1 => ?_
  cases d <;> first | exact h1.elim | skip
  · rename_i ds
    obtain ⟨a, vs, rfl, h2, g2, h3, h4⟩ := rd_at S1.gh rp
    exact ⟨a, vs, rfl, .inl ⟨h2, (show Fin X.K T W cl B G1 σ (.ok ds e) (fun ds env' G' H' => ds.length ≤ lineMax → ∀ J, WalksD X.K G' ds J → Q J H') from h1).at S1 h4 _ (walks_list g2 h3)⟩⟩
  · rename_i ds
    obtain ⟨a, vs, rfl, h2, g2, h3, h4⟩ := (Pk.rp rp : Pk X.K G1 H1 x _).tuple S1.gh
    exact ⟨a, vs, rfl, .inr ⟨h2, (show Fin X.K T W cl B G1 σ (.ok ds e) (fun ds env' G' H' => ds.length ≤ lineMax → ∀ J, WalksD X.K G' ds J → Q J H') from h1).at S1 h4 _ (walks_tup g2 h3)⟩⟩
theorem rng_len (lo : Int) (n : Nat) : (rngD lo n).length = n := by unfold rngD; rw [List.length_map, List.length_range]
theorem sndi_rng {tg a : Expr} {c : CE} {p pos : Pos} (hg : Gl X "range") (hm : X.mg "range" = none) (h : Snd C T cl X W a c) : SndI C T cl X W tg (.Call (.Name "range" p) [a] [] pos) (.rng c) := by
  refine ⟨(pi_range1 hg hm (pa_cons h.v pa_nil (star_cons h.pl [] X.env)) (star_cons h.pl [] X.env)).imp fun σ H Q q => ?_, rfl⟩
  obtain ⟨B, G, env, S, q⟩ := q
  refine TEx.frozen S (show Fin X.K T W cl B G σ (((evE C c env).bind frz).bind fun d env => match d with
    | .int n => if -16000000 ≤ n && n ≤ 16000000 then .ok (rngD 0 n.toNat) env else .bad
    | _ => .bad) _ from q) fun x d e G1 H1 g S1 rp h1 => ?_
  cases d <;> first | exact h1.elim | skip
  rename_i n
  have h1 : Fin X.K T W cl B G1 σ (if -16000000 ≤ n && n ≤ 16000000 then .ok (rngD 0 n.toNat) e else .bad) (fun ds env' G' H' => ds.length ≤ lineMax → ∀ J, WalksD X.K G' ds J → Q J H') := h1
  split at h1
  · rename_i hn
    simp only [Bool.and_eq_true, decide_eq_true_eq] at hn
    cases rp
    exact ⟨n, rfl, by omega, by omega, h1.at S1 (by rw [rng_len]; unfold lineMax; omega) _ (walks_rng 0 n.toNat)⟩
  · exact h1.elim
theorem sndi_rng2 {tg a b : Expr} {c d : CE} {p pos : Pos} (hg : Gl X "range") (hm : X.mg "range" = none) (ha : Snd C T cl X W a c) (hb : Snd C T cl X W b d) : SndI C T cl X W tg (.Call (.Name "range" p) [a, b] [] pos) (.rng2 c d) := by
  refine ⟨(pi_range2 hg hm (pa_cons ha.v (pa_cons hb.v pa_nil (star_cons hb.pl [] X.env)) (star_cons ha.pl [b] X.env)) (by rw [star_cons ha.pl, star_cons hb.pl]; rfl) (star_cons hb.pl [] X.env)).imp fun σ H Q q => ?_, rfl⟩
  obtain ⟨B, G, env, S, q⟩ := q
  refine TEx.frozen S (show Fin X.K T W cl B G σ (((evE C c env).bind frz).bind fun d1 env => ((evE C d env).bind frz).bind fun d' env => match d1, d' with
    | .int m, .int n => if -16000000 ≤ m && m ≤ 16000000 && -16000000 ≤ n && n ≤ 16000000 && n - m ≤ 16000000 then .ok (rngD m (n - m).toNat) env else .bad
    | _, _ => .bad) _ from q) fun x d1 e G1 H1 g S1 rp h1 => ?_
  refine TEx.frozen S1 h1 fun y d2 e2 G2 H2 g2 S2 rp2 h2 => ?_
  cases d1 <;> first | exact h2.elim | skip
  cases d2 <;> first | exact h2.elim | skip
  rename_i m n
  have h2 : Fin X.K T W cl B G2 σ (if -16000000 ≤ m && m ≤ 16000000 && -16000000 ≤ n && n ≤ 16000000 && n - m ≤ 16000000 then .ok (rngD m (n - m).toNat) e2 else .bad) (fun ds env' G' H' => ds.length ≤ lineMax → ∀ J, WalksD X.K G' ds J → Q J H') := h2
  split at h2
  · rename_i hn
    simp only [Bool.and_eq_true, decide_eq_true_eq] at hn
    cases rp
    cases rp2
    exact ⟨m, n, rfl, ⟨by omega, by omega, by omega, by omega⟩, h2.at S2 (by rw [rng_len]; unfold lineMax; omega) _ (walks_rng m (n - m).toNat)⟩
  · exact h2.elim
theorem sndi_enu {elts : List Expr} {kk : Nat} {tpos : Pos} {a : Expr} {c : CE} {p pos : Pos} (hg : Gl X "enumerate") (hm : X.mg "enumerate" = none) (h : Snd C T cl X W a c) : SndI C T cl X W (.Tuple elts kk tpos) (.Call (.Name "enumerate" p) [a] [] pos) (.enu c) := by
  refine ⟨(pi_enumA hg hm (pa_cons h.v pa_nil (star_cons h.pl [] X.env)) (star_cons h.pl [] X.env)).imp fun σ H Q q => ?_, rfl⟩
  obtain ⟨B, G, env, S, q⟩ := q
  refine TEx.frozen S (show Fin X.K T W cl B G σ (((evE C c env).bind frz).bind fun d env => match walkItems d with
    | some xs => .ok (enuD 0 xs) env
    | none => .bad) _ from q) fun x d e G1 H1 g S1 rp h1 => ?_
  cases d <;> first | exact h1.elim | skip
  · rename_i ds
    obtain ⟨a, vs, rfl, h2, g2, h3, h4⟩ := rd_at S1.gh rp
    exact ⟨a, vs, rfl, .inl ⟨h2, (show Fin X.K T W cl B G1 σ (.ok (enuD 0 ds) e) (fun ds env' G' H' => ds.length ≤ lineMax → ∀ J, WalksD X.K G' ds J → Q J H') from h1).at S1 (by rw [enuD_len]; exact h4) _ (walks_enuL g2 h3)⟩⟩
  · rename_i ds
    obtain ⟨a, vs, rfl, h2, g2, h3, h4⟩ := (Pk.rp rp : Pk X.K G1 H1 x _).tuple S1.gh
    exact ⟨a, vs, rfl, .inr ⟨h2, (show Fin X.K T W cl B G1 σ (.ok (enuD 0 ds) e) (fun ds env' G' H' => ds.length ≤ lineMax → ∀ J, WalksD X.K G' ds J → Q J H') from h1).at S1 (by rw [enuD_len]; exact h4) _ (walks_enuT g2 h3)⟩⟩
theorem sndi_zip {elts : List Expr} {kk : Nat} {tpos : Pos} {a b : Expr} {c d : CE} {p pos : Pos} (hg : Gl X "zip") (hm : X.mg "zip" = none) (ha : Snd C T cl X W a c) (hb : Snd C T cl X W b d) : SndI C T cl X W (.Tuple elts kk tpos) (.Call (.Name "zip" p) [a, b] [] pos) (.zip c d) := by
  refine ⟨(RZ.pi_zipA hg hm (pa_cons ha.v (pa_cons hb.v pa_nil (star_cons hb.pl [] X.env)) (star_cons ha.pl [b] X.env)) (star_cons ha.pl [b] X.env) (by rw [star_cons hb.pl]; rfl)).imp fun σ H Q q => ?_, rfl⟩
  obtain ⟨B, G, env, S, q⟩ := q
  refine TEx.frozen S (show Fin X.K T W cl B G σ (((evE C c env).bind frz).bind fun d1 env => ((evE C d env).bind frz).bind fun d' env => match d1, d' with
    | .list xs, .list ys => .ok (zipD xs ys) env
    | .tuple xs, .tuple ys => .ok (zipD xs ys) env
    | _, _ => .bad) _ from q) fun x d1 e G1 H1 g S1 rp h1 => ?_
  refine TEx.frozen S1 h1 fun y d2 e2 G2 H2 g2 S2 rp2 h2 => ?_
  replace rp := Rp.mono g2.same _ _ rp
  cases d1 <;> first | exact h2.elim | skip
  · cases d2 <;> first | exact h2.elim | skip
    rename_i ds es
    obtain ⟨a, vs, rfl, p1, p2, p3, p4⟩ := rd_at S2.gh rp
    obtain ⟨b, ws, rfl, q1, q2, q3, q4⟩ := rd_at S2.gh rp2
    exact ⟨a, b, vs, ws, rfl, .inl ⟨p1, q1, (show Fin X.K T W cl B G2 σ (.ok (zipD ds es) e2) (fun ds env' G' H' => ds.length ≤ lineMax → ∀ J, WalksD X.K G' ds J → Q J H') from h2).at S2 (by rw [zipD_len]; omega) _ (walks_zipL p2 p3 q2 q3)⟩⟩
  · cases d2 <;> first | exact h2.elim | skip
    rename_i ds es
    obtain ⟨a, vs, rfl, p1, p2, p3, p4⟩ := (Pk.rp rp : Pk X.K G2 H2 x _).tuple S2.gh
    obtain ⟨b, ws, rfl, q1, q2, q3, q4⟩ := (Pk.rp rp2 : Pk X.K G2 H2 y _).tuple S2.gh
    exact ⟨a, b, vs, ws, rfl, .inr ⟨p1, q1, (show Fin X.K T W cl B G2 σ (.ok (zipD ds es) e2) (fun ds env' G' H' => ds.length ≤ lineMax → ∀ J, WalksD X.K G' ds J → Q J H') from h2).at S2 (by rw [zipD_len]; omega) _ (walks_zipT p2 p3 q2 q3)⟩⟩
end
end Core
end

section
set_option Elab.async false
set_option linter.all false
set_option maxRecDepth 100000
set_option autoImplicit false
set_option maxHeartbeats 400000
/-! Soundness 9g: comprehensions. -/
namespace Core
open PySem PySem.Spec PyProof.Rows L2
section
variable {C : Ctx} {T : List (Addr × Str)} {cl : Nat → Value} {X : L2.Cx} {W : WX} {K : PySem.W.Frag} {B G H : Hp} {σ : L2.St} {env : Env}
theorem wipe_get : ∀ (own : List Nat) (env : Env) (i : Nat), (Core.wipe own env)[i]? = if i ∈ own then (env[i]?).map (fun _ => Sl.no) else env[i]?
  | [], env, i => by simp [Core.wipe]
  | j :: own, env, i => by
    show (Core.wipe own (env.set j .no))[i]? = _
    rw [wipe_get own]
    by_cases h : i ∈ own
    · rw [if_pos h, if_pos (List.mem_cons_of_mem _ h)]
      by_cases e : j = i
      · subst e
        cases q : env[j]? with
        | none => rw [List.getElem?_eq_none (by rw [List.length_set]; exact List.getElem?_eq_none_iff.mp q)] <;> rfl
        | some s => rw [List.getElem?_set_self (List.getElem?_eq_some_iff.mp q).1] <;> rfl
      · rw [List.getElem?_set_ne e]
    · rw [if_neg h]
      by_cases e : j = i
      · subst e
        rw [if_pos List.mem_cons_self]
        cases q : env[j]? with
        | none => rw [List.getElem?_eq_none (by rw [List.length_set]; exact List.getElem?_eq_none_iff.mp q)] <;> rfl
        | some s => rw [List.getElem?_set_self (List.getElem?_eq_some_iff.mp q).1] <;> rfl
      · rw [List.getElem?_set_ne e, if_neg (fun z => by rcases List.mem_cons.mp z with z | z; exact e z.symm; exact h z)]
theorem wipeS_get : ∀ (own : List Nat) (σ : L2.St) (i : Nat), (L2.wipe σ own)[i]? = if i ∈ own then (σ[i]?).map (fun _ => none) else σ[i]?
  | [], σ, i => by simp [L2.wipe]
  | j :: own, σ, i => by
    show ((L2.wipe σ own).set j none)[i]? = _
    by_cases e : j = i
    · subst e
      rw [if_pos List.mem_cons_self]
      cases q : σ[j]? with
      | none => rw [List.getElem?_eq_none (by rw [List.length_set, wipe_length]; exact List.getElem?_eq_none_iff.mp q)] <;> rfl
      | some s => rw [List.getElem?_set_self (by rw [wipe_length]; exact (List.getElem?_eq_some_iff.mp q).1)]; rfl
    · rw [List.getElem?_set_ne e, wipeS_get own]
      by_cases h : i ∈ own
      · rw [if_pos h, if_pos (List.mem_cons_of_mem _ h)]
      · rw [if_neg h, if_neg (fun z => by rcases List.mem_cons.mp z with z | z; exact e z.symm; exact h z)]
theorem back_geti : ∀ (own : List Nat) (env0 env : Env) (i : Nat), (back own env0 env)[i]? = if i ∈ own then (env[i]?).map (fun _ => env0.getD i .no) else env[i]?
  | [], env0, env, i => by simp [back]
  | j :: own, env0, env, i => by
    show (back own env0 (env.set j (env0.getD j .no)))[i]? = _
    rw [back_geti own]
    by_cases h : i ∈ own
    · rw [if_pos h, if_pos (List.mem_cons_of_mem _ h)]
      by_cases e : j = i
      · subst e
        cases q : env[j]? with
        | none => rw [List.getElem?_eq_none (by rw [List.length_set]; exact List.getElem?_eq_none_iff.mp q)] <;> rfl
        | some s => rw [List.getElem?_set_self (List.getElem?_eq_some_iff.mp q).1] <;> rfl
      · rw [List.getElem?_set_ne e]
    · rw [if_neg h]
      by_cases e : j = i
      · subst e
        rw [if_pos List.mem_cons_self]
        cases q : env[j]? with
        | none => rw [List.getElem?_eq_none (by rw [List.length_set]; exact List.getElem?_eq_none_iff.mp q)] <;> rfl
        | some s => rw [List.getElem?_set_self (List.getElem?_eq_some_iff.mp q).1] <;> rfl
      · rw [List.getElem?_set_ne e, if_neg (fun z => by rcases List.mem_cons.mp z with z | z; exact e z.symm; exact h z)]
theorem wipe_len (own : List Nat) (env : Env) : (Core.wipe own env).length = env.length := by
  induction own generalizing env with
  | nil => rfl
  | cons j own ih => show (Core.wipe own (env.set j .no)).length = _; rw [ih, List.length_set]
theorem backi_len (own : List Nat) (env0 env : Env) : (back own env0 env).length = env.length := by
  induction own generalizing env with
  | nil => rfl
  | cons j own ih => show (back own env0 (env.set j _)).length = _; rw [ih, List.length_set]
theorem own_wiped {own : List Nat} {i : Nat} {a : Addr} (o : ownAt (Core.wipe own env) (L2.wipe σ own) i a) : ownAt env σ i a ∧ i ∉ own := by
  obtain ⟨⟨s, e, k⟩, z⟩ := o
  rw [wipe_get] at e
  by_cases h : i ∈ own
  · rw [if_pos h] at e
    obtain ⟨_, _, rfl⟩ := Option.map_eq_some_iff.mp e
    cases k
  · rw [if_neg h] at e
    rw [wipeS_get, if_neg h] at z
    exact ⟨⟨⟨s, e, k⟩, z⟩, h⟩
/-- the block's names forgotten -/
theorem R.wiped (S : R K T B G env σ H) (own : List Nat) : R K T B G (Core.wipe own env) (L2.wipe σ own) H := by
  refine ⟨S.tab, by rw [wipe_len, wipe_length]; exact S.len, S.gh, S.bh, fun i s e => ?_, fun i j a o1 o2 => S.apart i j a (own_wiped o1).1 (own_wiped o2).1⟩
  rw [wipe_get] at e
  by_cases h : i ∈ own
  · rw [if_pos h] at e
    obtain ⟨_, _, rfl⟩ := Option.map_eq_some_iff.mp e
    trivial
  · rw [if_neg h] at e
    have z := S.slot i s e
    have q : (L2.wipe σ own)[i]? = σ[i]? := by rw [wipeS_get, if_neg h]
    cases s with
    | no => trivial
    | v d => obtain ⟨w, q1, q2⟩ := z; exact ⟨w, q.trans q1, q2⟩
    | o xs => obtain ⟨zl, a, vs, q1, q2⟩ := z; exact ⟨zl, a, vs, q.trans q1, q2⟩
    | q xs => obtain ⟨a, vs, q1, q2⟩ := z; exact ⟨a, vs, q.trans q1, q2⟩
/-- a block is entered: what its names hide is kept; and left -/
theorem wipe_core (S : R K T B G env σ H) (own : List Nat) : ∃ B0, Same B B0 ∧ (∀ a, H a = none → B0 a = none) ∧ R K T B0 G (Core.wipe own env) (L2.wipe σ own) H ∧
    ∀ G' env' H', GX B0 G G' → R K T B0 G' env' (L2.wipe σ own) H' → GX B G G' ∧ R K T B G' (back own env env') σ H' ∧ ∀ i a, ownAt (back own env env') σ i a → ownAt env σ i a ∨ ownAt env' (L2.wipe σ own) i a := by
  classical
  let B0 : Hp := fun b => if ∃ i, ownAt env σ i b ∧ i ∈ own then H b else B b
  have hid : ∀ {i b}, ownAt env σ i b → i ∈ own → B0 b = H b := fun {i b} o n => if_pos ⟨i, o, n⟩
  have oth : ∀ {b}, (¬ ∃ i, ownAt env σ i b ∧ i ∈ own) → B0 b = B b := fun {b} n => if_neg n
  have k0 : Same B B0 := fun b o e => by
    by_cases z : ∃ i, ownAt env σ i b ∧ i ∈ own
    · obtain ⟨i, o', _⟩ := z
      rw [(S.own o').2.1] at e; cases e
    · rw [oth z]; exact e
  have bh : Same B0 H := fun b o e => by
    by_cases z : ∃ i, ownAt env σ i b ∧ i ∈ own
    · obtain ⟨i, o', n⟩ := z
      rw [hid o' n] at e; exact e
    · rw [oth z] at e; exact S.bh _ _ e
  have seen : ∀ {i b}, ownAt env σ i b → i ∉ own → B0 b = none := fun {i b} o m => by
    have z : ¬ ∃ j, ownAt env σ j b ∧ j ∈ own := fun ⟨j, o', n⟩ => by
      have e := S.apart i j b o o'
      subst e
      exact m n
    rw [oth z]; exact (S.own o).2.1
  have tb : TabR T B0 G H := by
    refine ⟨S.tab.tabs, fun p hp => ?_, S.tab.g, fun a ps e => ?_, S.tab.gn⟩
    · obtain ⟨ps, e⟩ := S.tab.at hp
      have z : ¬ ∃ j, ownAt env σ j p.1 ∧ j ∈ own := fun ⟨j, o', n⟩ => by
        obtain ⟨_, _, u, e1, e2⟩ := S.own o'
        rw [e] at e1
        cases e1
        rcases e2 with ⟨_, z⟩ | ⟨_, z⟩ <;> cases z
      rw [oth z]; exact S.tab.b p hp
    · by_cases z : ∃ i, ownAt env σ i a ∧ i ∈ own
      · obtain ⟨i, o', n⟩ := z
        rw [hid o' n] at e
        obtain ⟨_, _, u, e1, e2⟩ := S.own o'
        rw [e] at e1
        cases e1
        rcases e2 with ⟨_, z⟩ | ⟨_, z⟩ <;> cases z
      · rw [oth z] at e; exact S.tab.bn a ps e
  refine ⟨B0, k0, fun a e => ?_, (S.wiped own).more bh (fun i a o => seen (own_wiped o).1 (own_wiped o).2) tb, fun G' env' H' g S' => ?_⟩
  · by_cases z : ∃ i, ownAt env σ i a ∧ i ∈ own
    · obtain ⟨i, o', n⟩ := z
      rw [hid o' n]; exact e
    · rw [oth z]; exact none_of_same S.bh e
  · have gx : GX B G G' := g.weak k0
    have lenE : env'.length = σ.length := by rw [S'.len, wipe_length]
    have stay : ∀ {i b}, ownAt env σ i b → i ∈ own → H' b = H b ∧ G' b = none := fun {i b} o n => by
      have e := hid o n
      obtain ⟨e0, _, u, hu, _⟩ := S.own o
      refine ⟨by rw [hu]; exact S'.bh _ _ (e.trans hu), ?_⟩
      cases z : G' b with
      | none => rfl
      | some w =>
        rcases g.new b w z with z | z
        · rw [e0] at z; cases z
        · rw [e, hu] at z; cases z
    have getE : ∀ {i s}, (back own env env')[i]? = some s → (i ∈ own ∧ env[i]? = some s) ∨ (i ∉ own ∧ env'[i]? = some s) := fun {i s} e => by
      rw [back_geti] at e
      by_cases h : i ∈ own
      · rw [if_pos h] at e
        obtain ⟨s', e1, rfl⟩ := Option.map_eq_some_iff.mp e
        refine .inl ⟨h, ?_⟩
        have hi : i < env.length := by rw [S.len, ← lenE]; exact (List.getElem?_eq_some_iff.mp e1).1
        rw [List.getElem?_eq_getElem hi, List.getD_eq_getElem?_getD, List.getElem?_eq_getElem hi]
        rfl
      · rw [if_neg h] at e
        exact .inr ⟨h, e⟩
    have ownB : ∀ {i a}, ownAt (back own env env') σ i a → (i ∈ own ∧ ownAt env σ i a) ∨ (i ∉ own ∧ ownAt env' (L2.wipe σ own) i a) := fun {i a} ⟨⟨s, e, k⟩, z⟩ => by
      rcases getE e with ⟨h, e⟩ | ⟨h, e⟩
      · exact .inl ⟨h, ⟨s, e, k⟩, z⟩
      · exact .inr ⟨h, ⟨s, e, k⟩, by rw [wipeS_get, if_neg h]; exact z⟩
    refine ⟨gx, ⟨S'.tab.weak k0, by rw [backi_len]; exact lenE, S'.gh, k0.trans S'.bh, fun i s e => ?_, fun i j a o1 o2 => ?_⟩, fun i a o => (ownB o).imp (·.2) (·.2)⟩
    · rcases getE e with ⟨h, e⟩ | ⟨h, e⟩
      · have z := S.slot i s e
        cases s with
        | no => trivial
        | v d => obtain ⟨w, q1, q2⟩ := z; exact ⟨w, q1, Rp.mono gx.same _ _ q2⟩
        | o xs =>
          obtain ⟨zl, a, vs, q1, q2, q3, q4, q5⟩ := z
          obtain ⟨y1, y2⟩ := stay ⟨⟨_, e, rfl⟩, q1⟩ h
          exact ⟨zl, a, vs, q1, y1.trans q2, y2, q4, RpAll.mono gx.same _ _ q5⟩
        | q xs =>
          obtain ⟨a, vs, q1, q2, q3, q4, q5⟩ := z
          obtain ⟨y1, y2⟩ := stay ⟨⟨_, e, rfl⟩, q1⟩ h
          exact ⟨a, vs, q1, y1.trans q2, y2, q4, RpKv.mono gx.same _ _ q5⟩
      · have z := S'.slot i s e
        have q : (L2.wipe σ own)[i]? = σ[i]? := by rw [wipeS_get, if_neg h]
        cases s with
        | no => trivial
        | v d => obtain ⟨w, q1, q2⟩ := z; exact ⟨w, q.symm.trans q1, q2⟩
        | o xs => obtain ⟨zl, a, vs, q1, q2, q3, q4, q5⟩ := z; exact ⟨zl, a, vs, q.symm.trans q1, q2, q3, none_of_same k0 q4, q5⟩
        | q xs => obtain ⟨a, vs, q1, q2, q3, q4, q5⟩ := z; exact ⟨a, vs, q.symm.trans q1, q2, q3, none_of_same k0 q4, q5⟩
    · have clash : ∀ {i j a}, i ∈ own → ownAt env σ i a → ownAt env' (L2.wipe σ own) j a → False := fun {i j a} h o o' => by
        have e := hid o h
        obtain ⟨_, _, u, hu, _⟩ := S.own o
        have z := (S'.own o').2.1
        rw [e, hu] at z; cases z
      rcases ownB o1 with ⟨h1, p1⟩ | ⟨h1, p1⟩ <;> rcases ownB o2 with ⟨h2, p2⟩ | ⟨h2, p2⟩
      · exact S.apart i j a p1 p2
      · exact (clash h1 p1 p2).elim
      · exact (clash h2 p2 p1).elim
      · exact S'.apart i j a p1 p2
/-- a clause's tests -/
def TCx (T : List (Addr × Str)) (cl : Nat → Value) (K : PySem.W.Frag) (W : WX) (ev : Env → Out Bool) : TT := TTx K T W cl ev
theorem pts_snd {ifs : List Expr} {cs : List CE} (h : SndL C T cl X W ifs cs) (hl : ifs.length ≤ 1) : PTs X ifs (TTx X.K T W cl (evC C cs)) := by
  cases h with
  | nil =>
    refine ⟨fun pins s σ H Q I q => pts_nil.run pins s σ H Q I ?_⟩
    obtain ⟨B, G, env, S, q⟩ := q
    exact (show Fin X.K T W cl B G σ (.ok true env) (fun b env' G' H' => Q b H') from q).at S
  | cons he hes =>
    cases hes with
    | cons _ _ => simp at hl
    | nil =>
      rename_i e c
      refine ⟨fun pins s σ H Q I q => (pts_one he.t).run pins s σ H Q I ?_⟩
      obtain ⟨B, G, env, S, q⟩ := q
      refine ⟨B, G, env, S, ?_⟩
      refine cast (congrArg (fun o => Fin X.K T W cl B G σ o _) (congrArg (Out.bind (evE C c env)) ?_)) (show Fin X.K T W cl B G σ ((evE C c env).bind fun r env => match peek r env with
        | some (.bool true) => .ok true env
        | some (.bool false) => .ok false env
        | _ => .bad) (fun b env' G' H' => Q b H') from q)
      funext r e
      cases peek r e with
      | none => rfl
      | some d =>
        cases d <;> first | rfl | skip
        rename_i b
        cases b <;> rfl
theorem wipe_same {σ2 : L2.St} {is own : List Nat} (h : ∀ i ∈ is, i ∈ own) (hl : σ2.length = σ.length) (hs : ∀ i, i ∉ is → σ2[i]? = (L2.wipe σ own)[i]?) : L2.wipe σ2 own = L2.wipe σ own := by
  refine List.ext_getElem? fun i => ?_
  rw [wipeS_get, wipeS_get]
  by_cases hi : i ∈ own
  · rw [if_pos hi, if_pos hi]
    by_cases hlt : i < σ.length
    · rw [List.getElem?_eq_getElem hlt, List.getElem?_eq_getElem (by rw [hl]; exact hlt)]; rfl
    · rw [List.getElem?_eq_none (by omega), List.getElem?_eq_none (by omega)]
  · rw [if_neg hi, if_neg hi, hs i (fun z => hi (h i z)), wipeS_get, if_neg hi]
end
end Core
end

section
set_option Elab.async false
set_option linter.all false
set_option maxRecDepth 100000
set_option autoImplicit false
set_option maxHeartbeats 400000
/-! Soundness 9h: list comprehensions. -/
namespace Core
open PySem PySem.Spec PyProof.Rows L2
/-- nothing is let out -/
abbrev W0 : WX := fun _ _ _ _ => False
section
variable {C : Ctx} {T : List (Addr × Str)} {cl : Nat → Value} {X : L2.Cx} {W : WX} {K : PySem.W.Frag} {B G H : Hp} {σ : L2.St} {env : Env}
/-- a new list is kept apart -/
theorem R.withNew {p : Addr} {o : HO} (S : R K T B G env σ H) (hp : H p = none) (nt : notTbl o) : R K T (upd B p o) G env σ (upd H p o) := by
  have eB : B p = none := none_of_same S.bh hp
  have S0 := S.laid (gf_new (o := o) S.gh hp)
  refine S0.more (fun b u e => ?_) (fun i a w => ?_) (S0.tab.updB upd_same nt)
  · by_cases z : b = p
    · subst z; rw [upd_same] at e ⊢; exact e
    · rw [upd_ne z] at e; exact S0.bh _ _ e
  · have ne : a ≠ p := fun z => by
      obtain ⟨_, _, u, e1, _⟩ := S.own w
      rw [z, hp] at e1; cases e1
    rw [upd_ne ne]; exact (S.own w).2.1
/-- .. and written over -/
theorem R.over {B0 : Hp} {p : Addr} {o o' : HO} (S : R K T (upd B0 p o) G env σ H) (eB : B0 p = none) (eG : G p = none) (nt : notTbl o) (nx : ∀ φ, o ≠ .ext φ) (nt' : notTbl o') : R K T (upd B0 p o') G env σ (upd H p o') := by
  have k : Same B0 (upd B0 p o) := fun b u e => by rw [upd_ne (fun z => by rw [z, eB] at e; cases e)]; exact e
  have S1 : R K T B0 G env σ (upd H p o') := S.write k eB upd_same eG nt nx
  refine S1.more (fun b u e => ?_) (fun i a w => ?_) (S1.tab.updB upd_same nt')
  · by_cases z : b = p
    · subst z; rw [upd_same] at e ⊢; exact e
    · rw [upd_ne z] at e; exact S1.bh _ _ e
  · have z := (S.own w).2.1
    have ne : a ≠ p := fun q => by rw [q, upd_same] at z; cases z
    rw [upd_ne ne] at z ⊢
    exact z
theorem RpAll.snoc {vs : List V} {ds : List D} {v : V} {d : D} (r : RpAll K G vs ds) (h : Rp K G v d) : RpAll K G (vs ++ [v]) (ds ++ [d]) := r.append (.cons h .nil)
/-- one step of the list's making -/
theorem lcGo_cons {tg : Core.TG} {cond : Env → Out Bool} {elt : Env → Out D} {own : List Nat} {d : D} {ds : List D} {envc env2 : Env} {rest : List D} (h : lcGo tg cond elt own (d :: ds) envc = .ok rest env2) :
    ∃ e1 b e2, bindT tg d envc = some e1 ∧ cond e1 = .ok b e2 ∧ (if b = true then ∃ dd e3 r, elt e2 = .ok dd e3 ∧ lcGo tg cond elt own ds (Core.wipe own e3) = .ok r env2 ∧ rest = dd :: r else lcGo tg cond elt own ds (Core.wipe own e2) = .ok rest env2) := by
  unfold lcGo at h
  cases e1 : bindT tg d envc with
  | none => rw [e1] at h; cases h
  | some v =>
    rw [e1] at h
    cases e2 : cond v with
    | bad => simp only [e2] at h; cases h
    | ex x e => simp only [e2] at h; cases h
    | ok b e =>
      refine ⟨v, b, e, rfl, e2, ?_⟩
      cases b with
      | false => simp only [e2] at h; exact h
      | true =>
        simp only [e2] at h
        rw [if_pos rfl]
        cases e3 : elt e with
        | bad => simp only [e3] at h; cases h
        | ex x e => simp only [e3] at h; cases h
        | ok dd e' =>
          simp only [e3] at h
          cases e4 : lcGo tg cond elt own ds (Core.wipe own e') with
          | bad => simp only [e4] at h; cases h
          | ex x e => simp only [e4] at h; cases h
          | ok r e'' =>
            simp only [e4] at h
            cases h
            exact ⟨dd, e', r, rfl, e4, rfl⟩
theorem lc_reads {it : IT} {t : Core.TG} {cs : List CE} {c : CE} {own : List Nat} (hsub : ∀ i ∈ tgNames t, i ∈ own) {Q : VK} (q : TEx K T W cl (evE C (.lc c t it cs own)) σ H Q) :
    tLc (TIx T cl K W (evI C it)) (gTx T K t) (TTx K T W0 cl (evC C cs)) (TEx K T W0 cl (evE C c)) own σ H Q := by
  obtain ⟨B, G, env, S, q⟩ := q
  have q : Fin K T W cl B G σ ((evI C it env).bind fun xs env1 => match lcGo t (evC C cs) (fun e => (evE C c e).bind frz) own xs (Core.wipe own env1) with
    | .ok ds env2 => .ok (RV.n (.list ds)) (back own env1 env2)
    | _ => .bad) (fun r e G' H' => ∀ v, RVR K B G' e σ H' v r → Q v H') := q
  refine ⟨B, G, env, S, q.bind.mono fun ds env1 G1 H1 g1 S1 q1 hlm J hJ D hD => ?_⟩
  cases e0 : lcGo t (evC C cs) (fun e => (evE C c e).bind frz) own ds (Core.wipe own env1) with
  | bad => rw [e0] at q1; exact q1.elim
  | ex x e => rw [e0] at q1; exact q1.elim
  | ok final env2 =>
    rw [e0] at q1
    have q1 : Fin K T W cl B G1 σ (.ok (RV.n (.list final)) (back own env1 env2)) (fun r e G' H' => ∀ v, RVR K B G' e σ H' v r → Q v H') := q1
    obtain ⟨B0, k0, n0, Sw, leave⟩ := wipe_core S1 own
    have eB0 : B0 D = none := n0 D hD
    have eG1 : G1 D = none := none_of_same S1.gh hD
    have ntl : ∀ xs : List V, notTbl (.lst xs) := fun xs _ z => by cases z
    have nxl : ∀ (xs : List V) φ, HO.lst xs ≠ .ext φ := fun xs φ z => by cases z
    have kD : ∀ o, Same B0 (upd B0 D o) := fun o b u e => by rw [upd_ne (fun z => by rw [z, eB0] at e; cases e)]; exact e
    -- what holds at a turn
    let Wi : Nat → Nat → Hp → Prop := fun i m Hc => ∃ Gc envc acc accD rest, m = ds.length - i ∧ i ≤ ds.length ∧ R K T (upd B0 D (.lst acc)) Gc envc (L2.wipe σ own) Hc ∧ GX B0 G1 Gc ∧ Gc D = none ∧ RpAll K Gc acc accD ∧ accD.length ≤ i ∧
      lcGo t (evC C cs) (fun e => (evE C c e).bind frz) own (ds.drop i) envc = .ok rest env2 ∧ accD ++ rest = final
    refine ⟨Wi, ⟨ds.length, G1, _, [], [], final, rfl, Nat.zero_le _, Sw.withNew hD (ntl []), GX.refl B0 G1, eG1, .nil, Nat.le_refl _, e0, rfl⟩, ?_⟩
    rintro i m Hc ⟨Gc, envc, acc, accD, rest, rfl, hi, Sc, gc, eD, ra, hla, hgo, hfin⟩
    by_cases hlt : i < ds.length
    · -- a turn
      obtain ⟨d, hd⟩ : ∃ d, ds[i]? = some d := ⟨ds[i], List.getElem?_eq_getElem hlt⟩
      have hdrop : ds.drop i = d :: ds.drop (i + 1) := by
        rw [List.drop_eq_getElem_cons hlt]
        rw [List.getElem?_eq_getElem hlt] at hd
        rw [Option.some.inj hd]
      rw [hdrop] at hgo
      obtain ⟨env1', b, env2', h1, h2, h3⟩ := lcGo_cons hgo
      obtain ⟨_, jd⟩ := hJ i Gc Hc gc.same Sc.gh
      obtain ⟨jgo, jy⟩ := jd d hd
      refine .inr ⟨jgo, fun H' => ∃ m', m' < ds.length - i ∧ Wi (i + 1) m' H', fun H' z => z, fun x H' y => ?_⟩
      obtain ⟨G2, gf, rp⟩ := jy x H' y
      have S2 := Sc.laid gf
      have gx2 : GX (upd B0 D (.lst acc)) Gc G2 := gf.gx Sc.bh
      refine ⟨upd B0 D (.lst acc), G2, envc, d, env1', S2, rp, h1, fun σ2 aft => ?_⟩
      have ws : L2.wipe σ2 own = L2.wipe σ own := wipe_same (σ := σ) hsub (by rw [aft.2.1, wipe_length]) aft.2.2
      refine ⟨ws, upd B0 D (.lst acc), G2, env1', aft.1, ?_⟩
      rw [h2]
      intro G3 H3 g3 S3
      -- behind the turn
      have fin : ∀ {G4 H4 e4}, GX (upd B0 D (.lst acc)) Gc G4 → R K T (upd B0 D (.lst acc)) G4 e4 σ2 H4 → G4 D = none := fun {G4 H4 e4} g4 S4 => by
        cases z : G4 D with
        | none => rfl
        | some u =>
          rcases g4.new _ _ z with z | z
          · rw [eD] at z; cases z
          · rw [upd_same] at z; cases z
      cases b with
      | false =>
        rw [if_neg (by decide)] at h3
        dsimp only
        rw [if_neg (by decide)]
        refine ⟨ds.length - (i + 1), by omega, G3, Core.wipe own env2', acc, accD, rest, rfl, hlt, ?_, gc.trans ((gx2.trans g3).weak (kD _)), fin (gx2.trans g3) S3, RpAll.mono (gx2.trans g3).same _ _ ra, by omega, h3, hfin⟩
        rw [← ws]; exact S3.wiped own
      | true =>
        rw [if_pos rfl] at h3
        dsimp only
        rw [if_pos rfl]
        obtain ⟨dd, e3, r, h4, h5, rfl⟩ := h3
        have z : Fin K T W0 cl (upd B0 D (.lst acc)) G3 σ2 (((evE C c env2').bind frz).bind fun d e => .ok d e) (fun d e G' H' => d = dd ∧ e = e3) := by
          rw [h4]
          exact fun G' H' _ _ => ⟨rfl, rfl⟩
        refine TEx.frozen S3 z fun y d' e' G4 H4 g4 S4 rp4 h6 => ?_
        obtain ⟨rfl, rfl⟩ := (show Fin K T W0 cl (upd B0 D (.lst acc)) G4 σ2 (.ok d' e') (fun d e G' H' => d = dd ∧ e = e3) from h6).at S4
        have g5 : GX (upd B0 D (.lst acc)) Gc G4 := (gx2.trans g3).trans g4
        have eD4 := fin g5 S4
        refine ⟨acc, S4.bh _ _ upd_same, ?_, ds.length - (i + 1), by omega, G4, Core.wipe own e', acc ++ [y], accD ++ [d'], r, rfl, hlt, ?_, gc.trans (g5.weak (kD _)), eD4, (RpAll.mono g5.same _ _ ra).snoc rp4, by rw [List.length_append, List.length_singleton]; omega, h5, by rw [List.append_assoc]; exact hfin⟩
        · rw [ra.length]
          have : lineMax = sizeLine := line_eq
          omega
        · rw [← ws]
          exact (S4.over eB0 eD4 (ntl _) (nxl _) (ntl _)).wiped own
    · -- the end
      have hie : i = ds.length := by omega
      have hdrop : ds.drop i = [] := by rw [hie]; exact List.drop_length
      rw [hdrop] at hgo
      have hgo : Out.ok [] envc = .ok rest env2 := hgo
      cases hgo
      rw [List.append_nil] at hfin
      subst hfin
      obtain ⟨js, _⟩ := hJ i Gc Hc gc.same Sc.gh
      refine .inl ⟨js hie, ?_⟩
      obtain ⟨gB, Sb, ob⟩ := leave Gc _ Hc gc (Sc.weak (kD _))
      refine q1 Gc Hc gB Sb (.ref D) ⟨by omega, D, acc, rfl, Sc.bh _ _ upd_same, eD, none_of_same k0 eB0, ra, fun j o => ?_⟩
      rcases ob j D o with o | o
      · obtain ⟨_, _, u, z, _⟩ := S1.own o
        rw [hD] at z; cases z
      · have z := (Sc.own o).2.1
        rw [upd_same] at z; cases z
/-- [elt for tg in iter if ..] -/
theorem snd_lc {elt tg iter : Expr} {ifs : List Expr} {scope : Scope} {own : List (Str × Nat)} {pos : Pos} {it : IT} {t : Core.TG} {cs : List CE} {c : CE} {cx : CCx} {n : Nat} (hc : X.calm = true) (hN : X.N.Nodup) (ok : BlkOk X.N X.env.scope scope own) (hi : SndI C T cl X W tg iter it)
    (hs : ∀ (s : Shared) (H : Hp) (A : Addr) (l : List (Str × Addr)) (fp : List Addr), StOk (X.blk s H scope (compEnvC scope l A X.env) fp) cx) (ht : compT n cx tg = some t)
    (hf : ∀ (s : Shared) (H : Hp) (A : Addr) (l : List (Str × Addr)) (fp : List Addr), SndL C T cl (X.blk s H scope (compEnvC scope l A X.env) fp) W0 ifs cs) (hl : ifs.length ≤ 1)
    (he : ∀ (s : Shared) (H : Hp) (A : Addr) (l : List (Str × Addr)) (fp : List Addr), Snd C T cl (X.blk s H scope (compEnvC scope l A X.env) fp) W0 elt c) (hsub : ∀ i ∈ tgNames t, i ∈ own.map (·.2)) :
    Snd C T cl X W (.ListComp elt [⟨tg, iter, ifs, 0⟩] scope pos) (.lc c t it cs (own.map (·.2))) :=
  .plain rfl ((pe_lc hc hN hi.1 ok (fun s H A l fp => pg_all (T := T) (hs s H A l fp) ht) (fun s H A l fp => pts_snd (hf s H A l fp) hl) (fun s H A l fp => (he s H A l fp).v) (no_fold hi.2 X.env)).imp fun σ H Q q => lc_reads hsub q) rfl
end
end Core
end

section
set_option Elab.async false
set_option linter.all false
set_option maxRecDepth 100000
set_option autoImplicit false
set_option maxHeartbeats 400000
/-! Soundness 9i: calls of defs, guards; every expression. -/
namespace Core
open PySem PySem.Spec PyProof.Rows L2
/-- what a def promises, by the evaluator -/
def spF (K : PySem.W.Frag) (T : List (Addr × Str)) (cl : Nat → Value) (C : Ctx) (f : Nat) : Sp := fun vs H Q E => ∃ B G ss, R K T B G ss (vs.map some) H ∧ match C.callf f ss with
  | .ok d new ps => ∀ G' H', GX B G G' → R K T B G' ps (vs.map some) H' → ∀ v, RVR K B G' ps (vs.map some) H' v (if new then .n d else .f d) → Q v H'
  | .ex x ps => ∀ G' H', GX B G G' → R K T B G' ps (vs.map some) H' → E (cl x.cls) none H'
  | .bad => False
/-- what a guard makes of what it calls -/
def TTg (sub : Nat → Nat → Bool) (cl : Nat → Value) (gd : Guard) : (XK → Hp → VK → Prop) → Hp → VK → Prop := fun tl H Q =>
  tl (fun cls _ H' => ∃ c h s, cls = cl c ∧ gd.hds.find? (fun h => sub c h.1) = some (h, .str s) ∧ Q (.str s) H') H (fun _ H' => ∃ s, gd.els = .str s ∧ Q (.str s) H')
/-- the guard x is a def of the text -/
def GdFact (X : L2.Cx) (x : Str) (sub : Nat → Nat → Bool) (cl : Nat → Value) (gd : Guard) : Prop :=
  ∃ (g : Addr) (a : Str) (Ng : List Str) (sg : Scope) (bg : List Stmt) (pg : Arguments) (dV kV doc pm cdv ct oc : Value) (an od : Option Addr) (osl : Array (Option Value)),
    X.mg x = some (.ref g) ∧ PySem.W.keepIn X.K (.ref g) = true ∧ X.K.lookup g = some ⟨oc, od, .func (PySem.W.fnOf x x pg bg sg dV kV doc pm an cdv ct), osl⟩ ∧ PySem.W.codeIn X.K cdv x = true ∧
    L2.Binds X.K (PySem.W.fnOf x x pg bg sg dV kV doc pm an cdv ct) [a] [] ∧ FnScope Ng [a] sg ∧ Ng[0]? = some a ∧ Vis sg a ∧ (a == ("__debug__" : Str)) = false ∧ (a == ("__classdict__" : Str)) = false ∧
    ∀ q, LamX.GivesTo X Ng x sg g cdv bg a q (TTg sub cl gd)
def bltNames : List Str := ["len", "abs", "int", "tuple", "list", "sorted", "all", "any", "set", "range", "isinstance", "bool", "str", "max", "min", "enumerate", "zip"]
/-- what the evaluator's soundness asks of a context -/
structure XOK (C : Ctx) (T : List (Addr × Str)) (cl : Nat → Value) (k : Nat) (X : L2.Cx) (W : WX) (cx : CCx) : Prop where
  st : StOk X cx
  takes : Takes X W
  room : Room k X.A
  blt : ∀ x ∈ bltNames, cx.fns.lookup x = none → cx.cons.lookup x = none → cx.clss.lookup x = none → X.mg x = none
  con : ∀ x d, cx.cons.lookup x = some d → ∃ v u, X.mg x = some u ∧ RelV v u ∧ ∀ G, Rp X.K G v d
  fns : ∀ x f, cx.fns.lookup x = some f → cx.gds.contains x = false → ∃ fa fd ps, X.mg x = some (.ref fa) ∧ PySem.W.keepIn X.K (.ref fa) = true ∧ Binds X.K fd ps [] ∧ FnOk X.prog X.w X.K X.mg X.base (L2.CX X.prog X.w) k fa fd ps (spF X.K T cl C f)
  grd : ∀ x f, cx.fns.lookup x = some f → cx.gds.contains x = true → ∀ X' : L2.Cx, X'.prog = X.prog → X'.w = X.w → X'.K = X.K → X'.mg = X.mg → X'.base = X.base → GdFact X' x C.sub cl (C.guard f)
  lam : cx.lam = true → Room (k + 2) X.A ∧ ∃ c P, X.env.code = .ref c ∧ LamX.TabB X.base X.mg c P ∧ (P, X.env.qual ++ "<lambda>") ∈ T ∧ ∀ p ∈ T, p.1 = P → p.2 = X.env.qual ++ "<lambda>"
section
variable {C : Ctx} {T : List (Addr × Str)} {cl : Nat → Value} {k : Nat} {X : L2.Cx} {W : WX} {cx : CCx}
/-- x(..), a def of the text -/
theorem snd_call {x : Str} {p pos : Pos} {es : List Expr} {cs : List CE} {f : Nat} (o : XOK C T cl k X W cx) (hg : Gl X x) (hf : cx.fns.lookup x = some f) (hn : cx.gds.contains x = false) (hd : (x == ("__debug__" : Str)) = false) (h : SndL C T cl X W es cs) (h0 : es.isEmpty = false) :
    Snd C T cl X W (.Call (.Name x p) es [] pos) (.call f cs) := by
  obtain ⟨fa, fd, ps, hm, hk, hb, F⟩ := o.fns x f hf hn
  cases es with
  | nil => cases h0
  | cons e es =>
    have he : Snd C T cl X W e (cs.headD (.cst .none)) ∧ SndL C T cl X W es cs.tail := by
      cases h with
      | cons a b => exact ⟨a, b⟩
    refine .plain rfl ((pe_callS F o.room hg hm hk hb (fun σ => passAt o.takes σ) (pa_rs h (C.io f) 0) hd (star_cons he.1.pl es X.env) (sndl_plain he.2 pos)).imp fun σ H Q q => ?_) rfl
    obtain ⟨B, G, env, S, q⟩ := q
    have q : Fin X.K T W cl B G σ ((evRs C (C.io f) 0 cs env).bind fun rs env =>
      if dupFree (bors env rs) then match passArgs env rs with
        | some ss => match C.callf f ss with
          | .ok d new ps => .ok (if new then RV.n d else RV.f d) (backArgs rs ps env)
          | .ex x ps => .ex x (backArgs rs ps env)
          | .bad => .bad
        | none => .bad
      else .bad) (fun r e G' H' => ∀ v, RVR X.K B G' e σ H' v r → Q v H') := q
    refine ⟨B, G, env, S, q.bind.mono fun rs e1 G1 H1 g1 S1 q1 vs a => ?_⟩
    split at q1
    · rename_i hdup
      cases e2 : passArgs e1 rs with
      | none => rw [e2] at q1; exact q1.elim
      | some ss =>
        simp only [e2] at q1
        obtain ⟨B2, k2, S2, fin⟩ := call_core S1 a e2 hdup
        refine ⟨B2, G1, ss, S2, ?_⟩
        cases e3 : C.callf f ss with
        | bad => simp only [e3] at q1; exact q1.elim
        | ok d new ps =>
          simp only [e3] at q1
          intro G' H' g S' v rv
          obtain ⟨g2, S3, rr⟩ := fin ps G' H' g S'
          exact q1 G' H' g2 S3 v (rr v d new rv)
        | ex x ps =>
          simp only [e3] at q1
          intro G' H' g S'
          obtain ⟨g2, S3, _⟩ := fin ps G' H' g S'
          exact q1 G' H' g2 S3
    · exact q1.elim
theorem defaults_none (env : PySem.Env) : defaultsOf ⟨[], [], none, [], [], none, []⟩ env = ([], []) := rfl
theorem tabs_same {B G H H1 : Hp} {σ : L2.St} {env : Env} (S : R X.K T B G env σ H) (e : LamX.ExtN H H1) (t : LamX.Tabs T H1) : R X.K T B G env σ H1 := by
  have hl : ∀ {a : Addr} {vs : List V}, H a = some (.lst vs) → H1 a = some (.lst vs) := fun {a vs} h => e _ _ h fun _ z => by cases z
  have hq : ∀ {a : Addr} {vs : List (Key × V)}, H a = some (.dK vs) → H1 a = some (.dK vs) := fun {a vs} h => e _ _ h fun _ z => by cases z
  refine ⟨⟨t, S.tab.b, S.tab.g, S.tab.bn, S.tab.gn⟩, S.len, fun b o z => e _ _ (S.gh _ _ z) fun ps q => S.tab.gn b ps (by rw [z, q]), fun b o z => e _ _ (S.bh _ _ z) fun ps q => S.tab.bn b ps (by rw [z, q]), fun i s z => ?_, S.apart⟩
  have y := S.slot i s z
  cases s with
  | no => trivial
  | v d => exact y
  | o xs => obtain ⟨zl, a, vs, e1, e2, e3, e4, e5⟩ := y; exact ⟨zl, a, vs, e1, hl e2, e3, e4, e5⟩
  | q xs => obtain ⟨a, vs, e1, e2, e3, e4, e5⟩ := y; exact ⟨a, vs, e1, hq e2, e3, e4, e5⟩
/-- x(lambda: body), x the guard -/
theorem snd_grd {x : Str} {p lpos pos : Pos} {body : Expr} {scope : Scope} {c : CE} {f : Nat} (o : XOK C T cl k X W cx) (hl : cx.lam = true) (hg : Gl X x) (hf : cx.fns.lookup x = some f) (hn : cx.gds.contains x = true) (hd : (x == ("__debug__" : Str)) = false) (L : LamX.LamS X.env.scope scope)
    (hbody : ∀ (X' : L2.Cx) (W' : WX), X'.K = X.K → XOK C T cl k X' W' { cx with sc := scope, lam := false, cel := [] } → PE X' body (TEx X.K T W' cl (evE C c))) :
    Snd C T cl X W (.Call (.Name x p) [.Lambda ⟨[], [], none, [], [], none, []⟩ body scope lpos] [] pos) (.grd f c) := by
  obtain ⟨hr, cc, P, hcode, TB, hmT, hu⟩ := o.lam hl
  obtain ⟨g, a, Ng, sg, bg, pg, dV, kV, doc, pm, cdv, ct, oc, an, od, osl, h1, h2, h3, h4, h5, h6, h7, h8, h9, h10, h11⟩ := o.grd x f hf hn X rfl rfl rfl rfl rfl
  refine .plain rfl ((LamX.pe_lamcall (t := fun E => TEx X.K T (fun cls d _ H => E cls d H) cl (evE C c)) hg h1 h2 h3 h4 h5 h6 h7 h8 (h11 _) TB hcode hmT hu hr L (defaults_none _) (fun _ _ _ _ _ => rfl) (fun A outer s H E fa c' hr' => ?_) hd h9 h10).imp fun σ H Q q => ?_) rfl
  · refine hbody _ _ rfl ⟨⟨o.st.N, o.st.nd, rfl, rfl, fun y hy => by simp at hy⟩, takes_of rfl rfl rfl rfl, hr', o.blt, o.con, o.fns, o.grd, fun z => by cases z⟩
  · obtain ⟨B, G, env, S, q⟩ := q
    refine ⟨S.tab.tabs, fun H1 ex t1 => ⟨B, G, env, tabs_same S ex t1, ?_⟩⟩
    have q : Fin X.K T W cl B G σ (match evE C c env with
      | .ok _ env => strR (C.guard f).els env
      | .ex x env => match (C.guard f).hds.find? fun h => C.sub x.cls h.1 with
        | some h => strR h.2 env
        | none => .bad
      | .bad => .bad) (fun r e G' H' => ∀ v, RVR X.K B G' e σ H' v r → Q v H') := q
    have str : ∀ {d : D} {e : Env}, Fin X.K T W cl B G σ (strR d e) (fun r e G' H' => ∀ v, RVR X.K B G' e σ H' v r → Q v H') → ∃ s, d = .str s ∧ ∀ G' H', GX B G G' → R X.K T B G' e σ H' → Q (.str s) H' := fun {d e} q => by
      cases d <;> first | exact q.elim | skip
      rename_i s
      have q : Fin X.K T W cl B G σ (if PyData.strOk s then .ok (RV.f (.str s)) e else .bad) (fun r e G' H' => ∀ v, RVR X.K B G' e σ H' v r → Q v H') := q
      split at q
      · rename_i hs
        exact ⟨s, rfl, fun G' H' g' S' => q G' H' g' S' _ (.str s hs)⟩
      · exact q.elim
    cases e1 : evE C c env with
    | bad => rw [e1] at q; exact q.elim
    | ok r e =>
      rw [e1] at q
      obtain ⟨s, h1, h2⟩ := str q
      exact fun G' H' g' S' v _ => ⟨s, h1, h2 G' H' g' S'⟩
    | ex y e =>
      rw [e1] at q
      cases e2 : (C.guard f).hds.find? fun h => C.sub y.cls h.1 with
      | none => simp only [e2] at q; exact q.elim
      | some h =>
        simp only [e2] at q
        obtain ⟨s, h1, h2⟩ := str q
        exact fun G' H' g' S' => ⟨y.cls, h.1, s, rfl, by rw [e2, ← h1], h2 G' H' g' S'⟩
end
end Core
end

section
set_option Elab.async false
set_option linter.all false
set_option maxRecDepth 100000
set_option autoImplicit false
set_option maxHeartbeats 400000
/-! Soundness 9j: every expression. -/
namespace Core
open PySem PySem.Spec PyProof.Rows L2
section
variable {C : Ctx} {T : List (Addr × Str)} {cl : Nat → Value} {k : Nat} {X : L2.Cx} {W : WX} {cx : CCx}
theorem tame_of {x : Str} (h : tameN x = true) : (x == ("__debug__" : Str)) = false ∧ (x == ("__classdict__" : Str)) = false ∧ x ≠ "__name__" := by
  unfold tameN at h
  simp only [Bool.and_eq_true, Bool.not_eq_true'] at h
  obtain ⟨⟨h1, h2⟩, h3⟩ := h
  exact ⟨h1, h2, fun z => by rw [z] at h3; exact absurd h3 (by decide)⟩
theorem slot_of {x : Str} {i : Nat} (o : StOk X cx) (h : cx.slot x = some i) : X.N[i]? = some x ∧ Vis X.env.scope x ∧ (x == ("__debug__" : Str)) = false ∧ (x == ("__classdict__" : Str)) = false := by
  unfold CCx.slot at h
  split at h
  · rename_i ht
    obtain ⟨t1, t2, _⟩ := tame_of ht
    rw [← o.sc, ← o.N] at h
    split at h
    · rename_i e; exact ⟨idx_get h, .inl e, t1, t2⟩
    · rename_i e; exact ⟨idx_get h, .inr (.inl e), t1, t2⟩
    · rename_i e; exact ⟨idx_get h, .inr (.inr e), t1, t2⟩
    · cases h
  · cases h
theorem glob_of {x : Str} (o : StOk X cx) (h : cx.glob x = true) : Gl X x ∧ (x == ("__debug__" : Str)) = false ∧ x ≠ "__name__" := by
  unfold CCx.glob at h
  rw [Bool.and_eq_true] at h
  obtain ⟨t1, t2, t3⟩ := tame_of h.2
  refine ⟨?_, t1, t3⟩
  show X.env.scope.names.lookup x = some .globalImplicit
  rw [o.sc]
  exact eq_of_beq h.1
theorem blt_of {x : Str} (o : XOK C T cl k X W cx) (h : cx.blt x = true) (hm : x ∈ bltNames) : Gl X x ∧ X.mg x = none ∧ (x == ("__debug__" : Str)) = false ∧ x ≠ "__name__" := by
  unfold CCx.blt at h
  simp only [Bool.and_eq_true, Option.isNone_iff_eq_none] at h
  obtain ⟨⟨⟨h1, h2⟩, h3⟩, h4⟩ := h
  obtain ⟨g1, g2, g3⟩ := glob_of o.st h1
  exact ⟨g1, o.blt x hm h2 h3 h4, g2, g3⟩
theorem XOK.units (o : XOK C T cl k X W cx) : X.A.units + 200 < cLine := by have := o.room.un; omega
/-! ### the forms' compile functions -/
theorem c_name {x : Str} {pos : Pos} {c : CE} (o : XOK C T cl k X W cx) (h : cName cx x = some c) : Snd C T cl X W (.Name x pos) c := by
  unfold cName at h
  split at h
  · rename_i i e
    cases h
    obtain ⟨h1, h2, h3, h4⟩ := slot_of o.st e
    exact snd_var h1 h2 h3 h4
  · split at h
    · rename_i hg
      obtain ⟨d, h1, rfl⟩ := Option.map_eq_some_iff.mp h
      obtain ⟨v, u, hm, r, hd⟩ := o.con x d h1
      obtain ⟨g1, g2, _⟩ := glob_of o.st hg
      exact snd_cst rfl rfl (pe_glob g1 hm r g2) hd
    · cases h
theorem c_const {v : Const} {j : Nat} {pos : Pos} {c : CE} (h : (constD v).map .cst = some c) : Snd C T cl X W (.Constant v j pos) c := by
  obtain ⟨d, h1, rfl⟩ := Option.map_eq_some_iff.mp h
  cases v <;> simp only [constD] at h1 <;> first | cases h1 | skip
  · exact snd_cst rfl rfl pe_non fun G => .non
  · exact snd_cst rfl rfl pe_bl fun G => .bl _
  · exact snd_cst rfl rfl pe_int fun G => .int _
  · split at h1
    · rename_i hs
      cases h1
      exact snd_cst rfl rfl pe_str fun G => .str _ hs
    · cases h1
variable {f : Expr → Option CE}
theorem c_bin {l r : Expr} {op : Operator} {pos : Pos} {c : CE} (ih : ∀ e c, f e = some c → Snd C T cl X W e c) (h : cBin f l op r = some c) : Snd C T cl X W (.BinOp l op r pos) c := by
  unfold cBin at h
  split at h
  · rename_i o a b h1 h2 h3
    cases h
    have ha := ih _ _ h2
    have hb := ih _ _ h3
    cases op <;> simp only [binOp] at h1 <;> cases h1
    · exact snd_bin (by decide) ok_add ha hb
    · exact snd_bin (by decide) ok_sub ha hb
    · exact snd_bin (by decide) ok_mul ha hb
    · exact snd_bin (by decide) ok_mod ha hb
    · exact snd_bin (by decide) ok_pow ha hb
    · exact snd_bin (by decide) ok_fdiv ha hb
  · cases h
theorem c_un {op : UnaryOp} {a : Expr} {pos : Pos} {c : CE} (ih : ∀ e c, f e = some c → Snd C T cl X W e c) (h : cUn f op a = some c) : Snd C T cl X W (.UnaryOp op a pos) c := by
  unfold cUn at h
  split at h
  · obtain ⟨d, h1, rfl⟩ := Option.map_eq_some_iff.mp h
    exact snd_un1 .neg ok_neg rfl (ih _ _ h1)
  · obtain ⟨d, h1, rfl⟩ := Option.map_eq_some_iff.mp h
    exact snd_not (ih _ _ h1)
  · cases h
theorem c_bool {op : BoolOp} {vs : List Expr} {pos : Pos} {c : CE} (ih : ∀ e c, f e = some c → Snd C T cl X W e c) (h : cBool f op vs = some c) : Snd C T cl X W (.BoolOp op vs pos) c := by
  unfold cBool at h
  split at h
  · obtain ⟨cs, h1, h2⟩ := Option.bind_eq_some_iff.mp h
    exact (snd_and (compL_snd ih h1) h2).snd rfl
  · obtain ⟨cs, h1, h2⟩ := Option.bind_eq_some_iff.mp h
    exact (snd_or (compL_snd ih h1) h2).snd rfl
theorem c_if {t a b : Expr} {pos : Pos} {c : CE} (ih : ∀ e c, f e = some c → Snd C T cl X W e c) (h : cIf f t a b = some c) : Snd C T cl X W (.IfExp t a b pos) c := by
  unfold cIf at h
  split at h
  · rename_i h1 h2 h3
    cases h
    exact snd_ite (ih _ _ h1) (ih _ _ h2) (ih _ _ h3)
  · cases h
theorem c_is {a b : Expr} {pos : Pos} {c : CE} (ih : ∀ e c, f e = some c → Snd C T cl X W e c) {neg : Bool} (h : cIs f neg a b = some c) : Snd C T cl X W (.Compare a [if neg then .IsNot else .Is] [b] pos) c := by
  unfold cIs at h
  split at h
  · obtain ⟨d, h1, rfl⟩ := Option.map_eq_some_iff.mp h
    cases neg with
    | false => exact snd_is (y := .non) rfl pe_non ok_isN (ih _ _ h1)
    | true => exact snd_is (y := .non) rfl pe_non ok_notN (ih _ _ h1)
  · obtain ⟨d, h1, rfl⟩ := Option.map_eq_some_iff.mp h
    cases neg with
    | false => exact snd_is (y := .bl _) rfl pe_bl ok_isB (ih _ _ h1)
    | true => exact snd_is (y := .bl _) rfl pe_bl ok_notB (ih _ _ h1)
  · cases h
/-- a comparison's rule -/
theorem cmp_ok {op : CmpOp} {o : O2} (hu : X.A.units + 200 < cLine) (h : cmpOp op = some o) : o ≠ .idx ∧ OpR X (compareOp op) (S2 X.K o) ∧ ∀ x y r, do2 o x y = some r → ∃ k, r = .bool k := by
  cases op <;> simp only [cmpOp] at h <;> cases h
  · exact ⟨by decide, ok_eq (by omega), fun x y r h => by simp only [do2] at h; obtain ⟨b, _, rfl⟩ := Option.map_eq_some_iff.mp h; exact ⟨_, rfl⟩⟩
  · exact ⟨by decide, ok_ne (by omega), fun x y r h => by simp only [do2] at h; obtain ⟨b, _, rfl⟩ := Option.map_eq_some_iff.mp h; exact ⟨_, rfl⟩⟩
  · exact ⟨by decide, ok_lt (by omega), fun x y r h => by simp only [do2] at h; obtain ⟨b, _, rfl⟩ := Option.map_eq_some_iff.mp h; exact ⟨_, rfl⟩⟩
  · exact ⟨by decide, ok_le, fun x y r h => by cases x <;> cases y <;> simp only [do2] at h <;> cases h <;> exact ⟨_, rfl⟩⟩
  · exact ⟨by decide, ok_gt, fun x y r h => by cases x <;> cases y <;> simp only [do2] at h <;> cases h <;> exact ⟨_, rfl⟩⟩
  · exact ⟨by decide, ok_ge, fun x y r h => by cases x <;> cases y <;> simp only [do2] at h <;> cases h <;> exact ⟨_, rfl⟩⟩
  · exact ⟨by decide, ok_in (by omega), fun x y r h => by cases y <;> simp only [do2] at h <;> first | cases h | (split at h <;> first | (cases h; done) | (cases h; exact ⟨_, rfl⟩))⟩
  · exact ⟨by decide, ok_notin (by omega), fun x y r h => by cases y <;> simp only [do2] at h <;> first | cases h | (split at h <;> first | (cases h; done) | (cases h; exact ⟨_, rfl⟩))⟩
theorem c_cmp {a : Expr} {ops : List CmpOp} {bs : List Expr} {pos : Pos} {c : CE} (hu : X.A.units + 200 < cLine) (ih : ∀ e c, f e = some c → Snd C T cl X W e c) (h : cCmp f a ops bs = some c) : Snd C T cl X W (.Compare a ops bs pos) c := by
  unfold cCmp at h
  split at h
  · unfold cCmp1 at h
    split at h
    · exact c_is (neg := false) ih h
    · exact c_is (neg := true) ih h
    · split at h
      · rename_i h1 h2 h3
        cases h
        obtain ⟨k1, k2, _⟩ := cmp_ok (X := X) hu h1
        exact snd_cmp k1 k2 (ih _ _ h2) (ih _ _ h3)
      · cases h
  · unfold cCmp2 at h
    split at h
    · rename_i h1 h2 h3 h4 h5
      cases h
      obtain ⟨_, k2, k3⟩ := cmp_ok (X := X) hu h1
      obtain ⟨_, l2, l3⟩ := cmp_ok (X := X) hu h2
      exact snd_chn k2 l2 k3 l3 (ih _ _ h3) (ih _ _ h4) (ih _ _ h5)
    · cases h
  · cases h
theorem opt_snd {e : Option Expr} {cs : List CE} (ih : ∀ e c, f e = some c → Snd C T cl X W e c) (h : optE f e = some cs) : SndO C T cl X W e cs := by
  cases e with
  | none => cases h; exact .none
  | some e =>
    obtain ⟨c, h1, rfl⟩ := Option.map_eq_some_iff.mp (show (f e).map (fun c => [c]) = some cs from h)
    exact .some (ih _ _ h1)
theorem c_sub {a i : Expr} {pos : Pos} {c : CE} (hu : X.A.units + 200 < cLine) (ih : ∀ e c, f e = some c → Snd C T cl X W e c) (h : cSub f a i = some c) : Snd C T cl X W (.Subscript a i pos) c := by
  unfold cSub at h
  split at h
  · split at h
    · rename_i h1 h2 h3
      cases h
      exact snd_slc (ih _ _ h1) (opt_snd ih h2) (opt_snd ih h3)
    · cases h
  · split at h
    · split at h
      · rename_i h1 h2
        cases h
        exact snd_idx (by omega) (ih _ _ h1) (ih _ _ h2)
      · cases h
    · cases h
theorem beq_eq {x y : Str} (h : (x == y) = true) : x = y := eq_of_beq h
theorem ok_sorted (hu : X.A.units + 80 < cLine) (hc : X.calm = true) : CallR X (.builtin "sorted") (S1 X.K .sorted_) := op1_of fun d r x G H Q hs hx hd q => by
  cases d <;> simp only [do1] at hd <;> first | cases hd | skip
  · split at hd
    · rename_i so
      cases hd
      obtain ⟨a, vs, rfl, h1, h2, h3⟩ := hx.list hs
      refine ⟨_, call_sortL hu, a, vs, _, G, rfl, hs, h1, h2, so, fun ys p r hp => q _ _ _ (gf_new hs hp) (nw_list hs hp ?_ r)⟩
      unfold sortD; rw [List.length_mergeSort]; exact h3
    · cases hd
  · split at hd
    · rename_i so
      cases hd
      rw [Bool.and_eq_true, decide_eq_true_eq] at so
      obtain ⟨so, hz⟩ := so
      obtain ⟨a, kvs, rfl, h1, h2⟩ := hx.dict hs
      refine ⟨_, call_sortDict hu hc, a, kvs, _, G, rfl, hs, .inl h1, h2, so, fun ys p r hp => q _ _ _ (gf_new hs hp) (nw_list hs hp ?_ r)⟩
      unfold sortD; rw [List.length_mergeSort, List.length_map]; exact hz
    · cases hd
theorem c_fn1 {x : Str} {p pos : Pos} {a : Expr} {c : CE} (o : XOK C T cl k X W cx) (hx : cx.blt x = true) (ih : ∀ e c, f e = some c → Snd C T cl X W e c) (h : cFn1 cx f x a = some c) : Snd C T cl X W (.Call (.Name x p) [a] [] pos) c := by
  have hu := o.units
  have hc := o.st.calm
  unfold cFn1 at h
  split at h
  · -- sorted(set(b))
    rename_i o1 b e1 e2
    obtain ⟨cb, h1, rfl⟩ := Option.map_eq_some_iff.mp h
    unfold fnSet at e1
    split at e1
    · rename_i ex
      cases e1
      rw [beq_eq ex] at hx ⊢
      unfold setArg at e2
      split at e2
      · split at e2
        · rename_i e3
          cases e2
          rw [Bool.and_eq_true] at e3
          have e4 := beq_eq e3.1
          rw [e4] at e3 ⊢
          obtain ⟨g1, g2, g3, g4⟩ := blt_of o hx (by decide)
          obtain ⟨g5, g6, g7, g8⟩ := blt_of o e3.2 (by decide)
          exact snd_sset (by omega) hc g1 g2 g5 g6 (ih _ _ h1)
        · cases e2
      · cases e2
    · cases e1
  · split at h
    · -- list(range(b))
      rename_i b e1 e2
      obtain ⟨cb, h1, rfl⟩ := Option.map_eq_some_iff.mp h
      rw [beq_eq e1] at hx ⊢
      unfold rngArg at e2
      split at e2
      · split at e2
        · rename_i e3
          cases e2
          rw [Bool.and_eq_true] at e3
          have e4 := beq_eq e3.1
          rw [e4] at e3 ⊢
          obtain ⟨g1, g2, g3, g4⟩ := blt_of o hx (by decide)
          obtain ⟨g5, g6, g7, g8⟩ := blt_of o e3.2 (by decide)
          exact snd_lrng hc g1 g2 g5 g6 (ih _ _ h1)
        · cases e2
      · cases e2
    · split at h
      · rename_i o1 ca e1 e2
        cases h
        have ha := ih _ _ e2
        unfold fn1 at e1
        split at e1
        · rename_i ex; cases e1; rw [beq_eq ex] at hx ⊢
          obtain ⟨g1, g2, g3, g4⟩ := blt_of o hx (by decide)
          exact snd_fn1 ok_len g1 g2 (by decide +kernel) g4 g3 ha
        split at e1
        · rename_i ex; cases e1; rw [beq_eq ex] at hx ⊢
          obtain ⟨g1, g2, g3, g4⟩ := blt_of o hx (by decide)
          exact snd_fn1 ok_abs g1 g2 (by decide +kernel) g4 g3 ha
        split at e1
        · rename_i ex; cases e1; rw [beq_eq ex] at hx ⊢
          obtain ⟨g1, g2, g3, g4⟩ := blt_of o hx (by decide)
          exact snd_ty1 ok_int g1 g2 (by decide +kernel) g4 g3 ha
        split at e1
        · rename_i ex; cases e1; rw [beq_eq ex] at hx ⊢
          obtain ⟨g1, g2, g3, g4⟩ := blt_of o hx (by decide)
          exact snd_ty1 ok_tuple g1 g2 (by decide +kernel) g4 g3 ha
        split at e1
        · rename_i ex; cases e1; rw [beq_eq ex] at hx ⊢
          obtain ⟨g1, g2, g3, g4⟩ := blt_of o hx (by decide)
          exact snd_ty1 ok_list g1 g2 (by decide +kernel) g4 g3 ha
        split at e1
        · rename_i ex; cases e1; rw [beq_eq ex] at hx ⊢
          obtain ⟨g1, g2, g3, g4⟩ := blt_of o hx (by decide)
          exact snd_fn1 (ok_sorted (by omega) hc) g1 g2 (by decide +kernel) g4 g3 ha
        split at e1
        · rename_i ex; cases e1; rw [beq_eq ex] at hx ⊢
          obtain ⟨g1, g2, g3, g4⟩ := blt_of o hx (by decide)
          exact snd_fn1 (ok_all hc) g1 g2 (by decide +kernel) g4 g3 ha
        split at e1
        · rename_i ex; cases e1; rw [beq_eq ex] at hx ⊢
          obtain ⟨g1, g2, g3, g4⟩ := blt_of o hx (by decide)
          exact snd_fn1 (ok_any hc) g1 g2 (by decide +kernel) g4 g3 ha
        cases e1
      · cases h
theorem c_fn2 {x : Str} {p pos : Pos} {a b : Expr} {c : CE} (o : XOK C T cl k X W cx) (hx : cx.blt x = true) (ih : ∀ e c, f e = some c → Snd C T cl X W e c) (h : cFn2 cx f x a b = some c) : Snd C T cl X W (.Call (.Name x p) [a, b] [] pos) c := by
  have hc := o.st.calm
  unfold cFn2 at h
  split at h
  · rename_i ex
    rw [beq_eq ex] at hx ⊢
    split at h
    · rename_i o1 ca e1 e2
      cases h
      have ha := ih _ _ e2
      obtain ⟨g1, g2, g3, g4⟩ := blt_of o hx (by decide)
      unfold tyArg at e1
      split at e1
      · rename_i t pt
        split at e1
        · rename_i ht
          unfold fnIs at e1
          split at e1
          · rename_i ey; cases e1; rw [beq_eq ey] at ht ⊢
            obtain ⟨g5, g6, g7, g8⟩ := blt_of o ht (by decide)
            exact snd_isi (n := "int") rfl g1 g2 rfl (pe_bltn g5 g6 (u := .type "int") (by decide +kernel) rfl g8 g7) ha
          split at e1
          · rename_i ey; cases e1; rw [beq_eq ey] at ht ⊢
            obtain ⟨g5, g6, g7, g8⟩ := blt_of o ht (by decide)
            exact snd_isi (n := "bool") rfl g1 g2 rfl (pe_bltn g5 g6 (u := .type "bool") (by decide +kernel) rfl g8 g7) ha
          split at e1
          · rename_i ey; cases e1; rw [beq_eq ey] at ht ⊢
            obtain ⟨g5, g6, g7, g8⟩ := blt_of o ht (by decide)
            exact snd_isi (n := "tuple") rfl g1 g2 rfl (pe_bltn g5 g6 (u := .type "tuple") (by decide +kernel) rfl g8 g7) ha
          split at e1
          · rename_i ey; cases e1; rw [beq_eq ey] at ht ⊢
            obtain ⟨g5, g6, g7, g8⟩ := blt_of o ht (by decide)
            exact snd_isi (n := "str") rfl g1 g2 rfl (pe_bltn g5 g6 (u := .type "str") (by decide +kernel) rfl g8 g7) ha
          cases e1
        · cases e1
      · cases e1
    · cases h
  · split at h
    · rename_i o1 ca cb e1 e2 e3
      cases h
      have ha := ih _ _ e2
      have hb := ih _ _ e3
      unfold fn2 at e1
      split at e1
      · rename_i ex; cases e1; rw [beq_eq ex] at hx ⊢
        obtain ⟨g1, g2, g3, g4⟩ := blt_of o hx (by decide)
        exact snd_fn2 (by decide) (ok_max2 hc) g1 g2 (by decide +kernel) g4 g3 ha hb
      split at e1
      · rename_i ex; cases e1; rw [beq_eq ex] at hx ⊢
        obtain ⟨g1, g2, g3, g4⟩ := blt_of o hx (by decide)
        exact snd_fn2 (by decide) (ok_min2 hc) g1 g2 (by decide +kernel) g4 g3 ha hb
      cases e1
    · cases h
theorem c_fn {x : Str} {p pos : Pos} {args : List Expr} {c : CE} (o : XOK C T cl k X W cx) (hx : cx.blt x = true) (ih : ∀ e c, f e = some c → Snd C T cl X W e c) (h : cFn cx f x args = some c) : Snd C T cl X W (.Call (.Name x p) args [] pos) c := by
  unfold cFn at h
  split at h
  · exact c_fn1 o hx ih h
  · exact c_fn2 o hx ih h
  · cases h
theorem sndi_it1 {tg : Expr} {x : Str} {p pos : Pos} {a : Expr} {it : IT} (o : XOK C T cl k X W cx) (ih : ∀ e c, f e = some c → Snd C T cl X W e c) (h : cIt1 cx f tg x a = some it) : SndI C T cl X W tg (.Call (.Name x p) [a] [] pos) it := by
  unfold cIt1 at h
  split at h
  · rename_i e
    rw [Bool.and_eq_true] at e
    have ex := beq_eq e.2
    rw [ex] at e ⊢
    obtain ⟨g1, g2, g3, g4⟩ := blt_of o e.1 (by decide)
    obtain ⟨ca, h1, rfl⟩ := Option.map_eq_some_iff.mp h
    exact sndi_rng g1 g2 (ih _ _ h1)
  · split at h
    · rename_i e
      simp only [Bool.and_eq_true] at e
      obtain ⟨⟨e1, e2⟩, e3⟩ := e
      have ex := beq_eq e2
      rw [ex] at e1 ⊢
      obtain ⟨g1, g2, g3, g4⟩ := blt_of o e1 (by decide)
      obtain ⟨ca, h1, rfl⟩ := Option.map_eq_some_iff.mp h
      cases tg <;> first | cases e3 | skip
      exact sndi_enu g1 g2 (ih _ _ h1)
    · cases h
theorem sndi_it2 {tg : Expr} {x : Str} {p pos : Pos} {a b : Expr} {it : IT} (o : XOK C T cl k X W cx) (ih : ∀ e c, f e = some c → Snd C T cl X W e c) (h : cIt2 cx f tg x a b = some it) : SndI C T cl X W tg (.Call (.Name x p) [a, b] [] pos) it := by
  unfold cIt2 at h
  split at h
  · rename_i e
    rw [Bool.and_eq_true] at e
    have ex := beq_eq e.2
    rw [ex] at e ⊢
    obtain ⟨g1, g2, g3, g4⟩ := blt_of o e.1 (by decide)
    split at h
    · rename_i h1 h2
      cases h
      exact sndi_rng2 g1 g2 (ih _ _ h1) (ih _ _ h2)
    · cases h
  · split at h
    · rename_i e
      simp only [Bool.and_eq_true] at e
      obtain ⟨⟨e1, e2⟩, e3⟩ := e
      have ex := beq_eq e2
      rw [ex] at e1 ⊢
      obtain ⟨g1, g2, g3, g4⟩ := blt_of o e1 (by decide)
      split at h
      · rename_i h1 h2
        cases h
        cases tg <;> first | cases e3 | skip
        exact sndi_zip g1 g2 (ih _ _ h1) (ih _ _ h2)
      · cases h
    · cases h
theorem c_it {tg e : Expr} {it : IT} (o : XOK C T cl k X W cx) (ih : ∀ e c, f e = some c → Snd C T cl X W e c) (h : cIt cx f tg e = some it) : SndI C T cl X W tg e it := by
  unfold cIt at h
  split at h
  · rename_i it' h1
    cases h
    unfold cItC at h1
    split at h1
    · exact sndi_it1 o ih h1
    · exact sndi_it2 o ih h1
    · cases h1
  · obtain ⟨c, h1, rfl⟩ := Option.map_eq_some_iff.mp h
    exact sndi_seq (ih _ _ h1)
theorem c_meth {ob : Expr} {m : Str} {apos cpos : Pos} {args : List Expr} {c : CE} (o : XOK C T cl k X W cx) (ih : ∀ e c, f e = some c → Snd C T cl X W e c) (h : cMeth f ob m apos args cpos = some c) : Snd C T cl X W (.Call (.Attribute ob m apos) args [] cpos) c := by
  have hu := o.units
  unfold cMeth at h
  split at h
  · rename_i e
    simp only [Bool.and_eq_true] at e
    obtain ⟨⟨e1, e2⟩, e3⟩ := e
    split at h
    · split at h
      · rename_i h1 h2
        cases h
        cases ob <;> first | cases e2 | skip
        rw [beq_eq e1]
        exact snd_index (by omega) e3 (ih _ _ h1) (ih _ _ h2)
      · cases h
    · cases h
  · cases h
/-- a block's context -/
theorem XOK.blk (o : XOK C T cl k X W cx) (s : Shared) (H : Hp) (scope : Scope) (A : Addr) (l : List (Str × Addr)) (fp : List Addr) : XOK C T cl k (X.blk s H scope (compEnvC scope l A X.env) fp) W0 (cx.blk scope) := by
  refine ⟨⟨o.st.N, o.st.nd, ?_, o.st.calm, fun x hx => ?_⟩, takes0, o.room, o.blt, o.con, o.fns, o.grd, o.lam⟩
  · show L2.relS scope X.env.scope = L2.relS scope cx.sc
    rw [o.st.sc]
  · have hx : ((cells scope).filter fun x => scope.names.lookup x == some .cell).contains x = true := hx
    rw [List.contains_iff_mem, List.mem_filter] at hx
    exact hx.2
theorem c_lc {g : Nat → CCx → Expr → Option CE} {n : Nat} {elt : Expr} {gens : List Comprehension} {scope : Scope} {pos : Pos} {c : CE} (o : XOK C T cl k X W cx) (ih : ∀ (X : L2.Cx) (W : WX) (cx : CCx), XOK C T cl k X W cx → ∀ e c, g n cx e = some c → Snd C T cl X W e c)
    (h : cLc cx (compT n) (g n) (cIt cx (g n cx)) elt gens scope = some c) : Snd C T cl X W (.ListComp elt gens scope pos) c := by
  unfold cLc at h
  split at h
  · rename_i tg iter ifs
    split at h
    · rename_i hb
      rw [Bool.and_eq_true, decide_eq_true_eq] at hb
      split at h
      · rename_i it t cs ce h1 h2 h3 h4
        split at h
        · rename_i hs
          cases h
          rw [List.all_eq_true] at hs
          refine snd_lc (cx := cx.blk scope) (n := n) o.st.calm o.st.nd ?_ (c_it o (ih X W cx o) h1) (fun s H A l fp => (o.blk s H scope A l fp).st) h2 (fun s H A l fp => compL_snd (ih _ _ _ (o.blk s H scope A l fp)) h3) hb.2 (fun s H A l fp => ih _ _ _ (o.blk s H scope A l fp) _ _ h4) fun i hi => ?_
          · have := blkOk_by hb.1
            rw [o.st.N, o.st.sc]
            exact this
          · have := hs i hi
            rwa [List.contains_iff_mem] at this
        · cases h
      · cases h
    · cases h
  · cases h
theorem c_name1 {n : Nat} {g : Nat → CCx → Expr → Option CE} {x : Str} {p pos : Pos} {args : List Expr} {c : CE} (o : XOK C T cl k X W cx) (ih : ∀ (X : L2.Cx) (W : WX) (cx : CCx), XOK C T cl k X W cx → ∀ e c, g n cx e = some c → Snd C T cl X W e c)
    (h : cName1 cx (g n cx) (g n) x args = some c) : Snd C T cl X W (.Call (.Name x p) args [] pos) c := by
  unfold cName1 at h
  split at h
  · rename_i hg
    obtain ⟨g1, g2, g3⟩ := glob_of o.st hg
    split at h
    · rename_i i hf
      split at h
      · rename_i hn
        unfold cGrd at h
        split at h
        · rename_i body scope hl
          split at h
          · rename_i hb
            rw [Bool.and_eq_true] at hb
            obtain ⟨d, h1, rfl⟩ := Option.map_eq_some_iff.mp h
            unfold lamBody at hl
            split at hl
            · cases hl
              exact snd_grd o hb.1 g1 hf hn g2 (by rw [o.st.sc]; exact LamX.lamS_by hb.2) fun X' W' eK o' => eK ▸ (ih X' W' _ o' _ _ h1).v
            · cases hl
          · cases h
        · cases h
      · rename_i hn
        split at h
        · cases h
        · rename_i h0
          obtain ⟨cs, h1, rfl⟩ := Option.map_eq_some_iff.mp h
          exact snd_call o g1 hf (by simpa using hn) g2 (compL_snd (ih X W cx o) h1) (by simpa using h0)
    · split at h
      · rename_i hb
        exact c_fn o hb (ih X W cx o) h
      · cases h
  · cases h
theorem c_call {n : Nat} {g : Nat → CCx → Expr → Option CE} {fe : Expr} {args : List Expr} {kws : List Keyword} {pos : Pos} {c : CE} (o : XOK C T cl k X W cx) (ih : ∀ (X : L2.Cx) (W : WX) (cx : CCx), XOK C T cl k X W cx → ∀ e c, g n cx e = some c → Snd C T cl X W e c)
    (h : cCall cx (g n cx) (g n) fe args kws pos = some c) : Snd C T cl X W (.Call fe args kws pos) c := by
  unfold cCall at h
  split at h
  · split at h
    · exact c_name1 o ih h
    · exact c_meth o (ih X W cx o) h
    · cases h
  · cases h
/-- every expression -/
theorem snd_all : ∀ (n : Nat) (X : L2.Cx) (W : WX) (cx : CCx), XOK C T cl k X W cx → ∀ e c, compE n cx e = some c → Snd C T cl X W e c
  | 0, X, W, cx, o, e, c, h => by cases h
  | n + 1, X, W, cx, o, e, c, h => by
    have ih := snd_all n
    have ihe := ih X W cx o
    unfold compE at h
    split at h
    · exact c_name o h
    · exact c_const h
    · split at h
      · rename_i hl
        obtain ⟨cs, h1, rfl⟩ := Option.map_eq_some_iff.mp h
        exact snd_tup hl (compL_snd ihe h1)
      · cases h
    · split at h
      · rename_i hl
        obtain ⟨cs, h1, rfl⟩ := Option.map_eq_some_iff.mp h
        exact snd_lst hl (compL_snd ihe h1)
      · cases h
    · unfold cDict at h
      split at h
      · rename_i hl
        rw [Bool.and_eq_true, decide_eq_true_eq, decide_eq_true_eq] at hl
        obtain ⟨cs, h1, rfl⟩ := Option.map_eq_some_iff.mp h
        exact snd_dct hl.1 hl.2 (compP_snd ihe h1)
      · cases h
    · exact c_bin ihe h
    · exact c_un ihe h
    · exact c_bool ihe h
    · exact c_if ihe h
    · exact c_cmp o.units ihe h
    · exact c_sub o.units ihe h
    · exact c_call (g := compE) o ih h
    · exact c_lc (g := compE) o ih h
    · cases h
end
end Core
end

section
set_option Elab.async false
set_option linter.all false
set_option maxRecDepth 100000
set_option autoImplicit false
set_option maxHeartbeats 400000
/-! Soundness 10a: statements: what an end says; the simple ones. -/
namespace Core
open PySem PySem.Spec PyProof.Rows L2
/-- the parameters that are never stored keep their values -/
def Keep (io : List Nat) (σ σ' : L2.St) : Prop := ∀ i ∈ io, σ'[i]? = σ[i]?
theorem Keep.refl (io : List Nat) (σ : L2.St) : Keep io σ σ := fun _ _ => rfl
theorem Keep.trans {io : List Nat} {a b c : L2.St} (h : Keep io a b) (k : Keep io b c) : Keep io a c := fun i hi => (k i hi).trans (h i hi)
def EndsAt (K : PySem.W.Frag) (B : Hp) (D : Ends) (fl : Fl) (env : Env) (σ : L2.St) (G H : Hp) : Prop := match fl with
  | .next => D.nx σ H
  | .brk => D.bk σ H
  | .cnt => D.ct σ H
  | .ret r => ∀ v, RVR K B G env σ H v r → D.rt v H
/-- behind a statement -/
def FinS (K : PySem.W.Frag) (T : List (Addr × Str)) (W : WX) (cl : Nat → Value) (io : List Nat) (B G : Hp) (σ : L2.St) (o : Out Fl) (N : Fl → Env → L2.St → Hp → Hp → Prop) : Prop := match o with
  | .ok fl env => ∀ σ' G' H', Keep io σ σ' → GX B G G' → R K T B G' env σ' H' → N fl env σ' G' H'
  | .ex x env => ∀ σ' G' H', Keep io σ σ' → GX B G G' → R K T B G' env σ' H' → W (cl x.cls) none σ' H'
  | .bad => False
def TSx (K : PySem.W.Frag) (T : List (Addr × Str)) (W : WX) (cl : Nat → Value) (io : List Nat) (ev : Env → Out Fl) : TS := fun D σ H => ∃ B G env, R K T B G env σ H ∧ FinS K T W cl io B G σ (ev env) fun fl env' σ' G' H' => EndsAt K B D fl env' σ' G' H'
section
variable {K : PySem.W.Frag} {T : List (Addr × Str)} {W : WX} {cl : Nat → Value} {io : List Nat} {B G H : Hp} {σ : L2.St} {env : Env}
theorem FinS.mono {o : Out Fl} {N N' : Fl → Env → L2.St → Hp → Hp → Prop} (h : FinS K T W cl io B G σ o N) (m : ∀ a e σ' G' H', Keep io σ σ' → GX B G G' → R K T B G' e σ' H' → N a e σ' G' H' → N' a e σ' G' H') : FinS K T W cl io B G σ o N' := by
  cases o with
  | ok a e => exact fun σ' G' H' k g S => m a e σ' G' H' k g S (h σ' G' H' k g S)
  | ex x e => exact h
  | bad => exact h
theorem FinS.grow {G1 : Hp} {σ1 : L2.St} {o : Out Fl} {N : Fl → Env → L2.St → Hp → Hp → Prop} (h : FinS K T W cl io B G σ o N) (k1 : Keep io σ σ1) (g : GX B G G1) : FinS K T W cl io B G1 σ1 o N := by
  cases o with
  | ok a e => exact fun σ' G' H' k g' S => h σ' G' H' (k1.trans k) (g.trans g') S
  | ex x e => exact fun σ' G' H' k g' S => h σ' G' H' (k1.trans k) (g.trans g') S
  | bad => exact h
/-- an expression ahead -/
theorem FinS.bind {α : Type} {o : Out α} {k : α → Env → Out Fl} {N : Fl → Env → L2.St → Hp → Hp → Prop} (h : FinS K T W cl io B G σ (o.bind k) N) : Fin K T W cl B G σ o fun a e G' H' => FinS K T W cl io B G' σ (k a e) N := by
  cases o with
  | ok a e => exact fun G' H' g S => FinS.grow (o := k a e) h (Keep.refl io σ) g
  | ex x e => exact fun G' H' g S => h σ G' H' (Keep.refl io σ) g S
  | bad => exact h
theorem FinS.at {fl : Fl} {N : Fl → Env → L2.St → Hp → Hp → Prop} {σ' : L2.St} {G' H' : Hp} (h : FinS K T W cl io B G σ (.ok fl env) N) (k : Keep io σ σ') (g : GX B G G') (S : R K T B G' env σ' H') : N fl env σ' G' H' := h σ' G' H' k g S
/-- a value that is known for good -/
theorem TEx.frozenS {ev : Env → Out RV} {k : D → Env → Out Fl} {N : Fl → Env → L2.St → Hp → Hp → Prop} {Q : VK} (S : R K T B G env σ H) (h : FinS K T W cl io B G σ (((ev env).bind frz).bind k) N)
    (q : ∀ x d e G1 H1, GX B G G1 → R K T B G1 e σ H1 → Rp K G1 x d → FinS K T W cl io B G1 σ (k d e) N → Q x H1) : TEx K T W cl ev σ H Q := by
  rw [bind_assoc] at h
  refine .of S (h.bind.mono fun r e G1 H1 g S1 h1 x rv => ?_)
  cases e1 : frz r e with
  | bad => rw [e1] at h1; exact h1.elim
  | ex y e2 => exact absurd e1 frz_ex
  | ok d e2 =>
    rw [e1] at h1
    obtain ⟨G2, g2, S2, rp⟩ := rv.frozen S1 e1
    exact q x d e2 G2 H1 (g.trans g2) S2 rp (FinS.grow h1 (Keep.refl io σ) g2)
/-! ### slots -/
theorem set_own {i : Nat} {s : Sl} {v : V} {j : Nat} {a : Addr} (o : ownAt (env.set i s) (σ.set i (some v)) j a) : (j = i ∧ v = .ref a ∧ isOwn s = true) ∨ (j ≠ i ∧ ownAt env σ j a) := by
  obtain ⟨⟨s', e, k⟩, z⟩ := o
  by_cases ne : j = i
  · subst ne
    have hi : j < env.length := by
      have := (List.getElem?_eq_some_iff.mp e).1
      rwa [List.length_set] at this
    have hj : j < σ.length := by
      have := (List.getElem?_eq_some_iff.mp z).1
      rwa [List.length_set] at this
    rw [List.getElem?_set_self hi] at e
    rw [List.getElem?_set_self hj] at z
    cases e; cases z
    exact .inl ⟨rfl, rfl, k⟩
  · rw [List.getElem?_set_ne (Ne.symm ne)] at e z
    exact .inr ⟨ne, ⟨s', e, k⟩, z⟩
/-- a name takes a new list -/
theorem R.setN {i : Nat} {v : V} {d : D} {s : Sl} (S : R K T B G env σ H) (h : RVR K B G env σ H v (.n d)) (hs : (∃ xs, d = .list xs ∧ s = .o xs) ∨ ∃ kvs, d = .dict kvs ∧ s = .q kvs) : R K T B G (env.set i s) (σ.set i (some v)) H := by
  have fresh : ∀ a, v = .ref a → ∀ j, ¬ ownAt env σ j a := fun a e => by
    rcases hs with ⟨xs, rfl, _⟩ | ⟨xs, rfl, _⟩
    · obtain ⟨_, b, vs, rfl, _, _, _, _, q⟩ := h; cases e; exact q
    · obtain ⟨b, vs, rfl, _, _, _, _, q⟩ := h; cases e; exact q
  refine ⟨S.tab, by rw [List.length_set, List.length_set]; exact S.len, S.gh, S.bh, fun j s' e => ?_, fun j k a o1 o2 => ?_⟩
  · by_cases ne : j = i
    · subst ne
      have hi : j < env.length := by
        have := (List.getElem?_eq_some_iff.mp e).1
        rwa [List.length_set] at this
      rw [List.getElem?_set_self hi] at e
      cases e
      have hσ : (σ.set j (some v))[j]? = some (some v) := List.getElem?_set_self (by rw [← S.len]; exact hi)
      rcases hs with ⟨xs, rfl, rfl⟩ | ⟨xs, rfl, rfl⟩
      · obtain ⟨zl, b, vs, rfl, e2, e3, e4, e5, _⟩ := h
        exact ⟨zl, b, vs, hσ, e2, e3, e4, e5⟩
      · obtain ⟨b, vs, rfl, e2, e3, e4, e5, _⟩ := h
        exact ⟨b, vs, hσ, e2, e3, e4, e5⟩
    · rw [List.getElem?_set_ne (Ne.symm ne)] at e
      have e2 : (σ.set i (some v))[j]? = σ[j]? := List.getElem?_set_ne (Ne.symm ne)
      have z := S.slot j s' e
      cases s' with
      | no => trivial
      | v d' => obtain ⟨w, q1, q2⟩ := z; exact ⟨w, e2.trans q1, q2⟩
      | o xs => obtain ⟨zl, a, vs, q1, q⟩ := z; exact ⟨zl, a, vs, e2.trans q1, q⟩
      | q xs => obtain ⟨a, vs, q1, q⟩ := z; exact ⟨a, vs, e2.trans q1, q⟩
  · rcases set_own o1 with ⟨h1, p1, _⟩ | ⟨h1, p1⟩ <;> rcases set_own o2 with ⟨h2, p2, _⟩ | ⟨h2, p2⟩
    · rw [h1, h2]
    · exact (fresh a p1 k p2).elim
    · exact (fresh a p2 j p1).elim
    · exact S.apart j k a p1 p2
theorem hold_ex {r : RV} {e : Env} {x : Exc} {e2 : Env} : hold r e ≠ .ex x e2 := by
  have fz : ∀ (r : RV), ((frz r e).bind fun d env => Out.ok (Sl.v d) env) ≠ .ex x e2 := fun r z => by
    cases q : frz r e with
    | bad => rw [q] at z; cases z
    | ex y e3 => exact frz_ex q
    | ok d e3 => rw [q] at z; cases z
  cases r with
  | f d => exact fz (.f d)
  | b i => exact fz (.b i)
  | n d => cases d <;> first | (intro z; cases z; done) | exact fz (.n _)
/-- a name takes a value -/
theorem R.setH {i : Nat} {v : V} {r : RV} {s : Sl} {e : Env} (S : R K T B G env σ H) (h : RVR K B G env σ H v r) (hs : hold r env = .ok s e) : ∃ G', GX B G G' ∧ R K T B G' (e.set i s) (σ.set i (some v)) H := by
  have fz : ((frz r env).bind fun d env => Out.ok (Sl.v d) env) = .ok s e → ∃ G', GX B G G' ∧ R K T B G' (e.set i s) (σ.set i (some v)) H := fun z => by
    cases q : frz r env with
    | bad => rw [q] at z; cases z
    | ex y e3 => exact absurd q frz_ex
    | ok d e3 =>
      rw [q] at z; cases z
      obtain ⟨G', g, S', rp⟩ := h.frozen S q
      exact ⟨G', g, S'.setV rp⟩
  cases r with
  | f d => exact fz hs
  | b j => exact fz hs
  | n d =>
    cases d <;> first | exact fz hs | skip
    · cases hs; exact ⟨G, GX.refl B G, S.setN h (.inl ⟨_, rfl, rfl⟩)⟩
    · cases hs; exact ⟨G, GX.refl B G, S.setN h (.inr ⟨_, rfl, rfl⟩)⟩
/-- a name's own list is written -/
theorem R.ownUpd {i : Nat} {a : Addr} {o : HO} {s : Sl} (S : R K T B G env σ H) (w : ownAt env σ i a) (h : (∃ xs vs, s = .o xs ∧ o = .lst vs ∧ xs.length ≤ lineMax ∧ RpAll K G vs xs) ∨ ∃ kvs vs, s = .q kvs ∧ o = .dK vs ∧ RpKv K G vs kvs) : R K T B G (env.set i s) σ (upd H a o) := by
  obtain ⟨eG, eB, u, hu, hk⟩ := S.own w
  have off : ∀ {F : Hp} {b x}, F a = none → F b = some x → b ≠ a := fun {F b x} e q z => by rw [z, e] at q; cases q
  have ntu : notTbl u := fun ps z => by rcases hk with ⟨_, rfl⟩ | ⟨_, rfl⟩ <;> cases z
  have up : ∀ {j b}, ownAt (env.set i s) σ j b → ownAt env σ j b := fun {j b} ⟨⟨s', e, k⟩, z⟩ => by
    by_cases ne : j = i
    · subst ne; exact ⟨w.1, z⟩
    · rw [List.getElem?_set_ne (Ne.symm ne)] at e
      exact ⟨⟨s', e, k⟩, z⟩
  refine ⟨⟨fun p hp => ?_, S.tab.b, S.tab.g, S.tab.bn, S.tab.gn⟩, by rw [List.length_set]; exact S.len, fun b x e => by rw [upd_ne (off eG e)]; exact S.gh _ _ e, fun b x e => by rw [upd_ne (off eB e)]; exact S.bh _ _ e, fun j s' e => ?_, fun j k b o1 o2 => S.apart j k b (up o1) (up o2)⟩
  · obtain ⟨ps, h1, h2, h3⟩ := S.tab.tabs p hp
    have ne : p.1 ≠ a := S.tab.ne hu ntu hp
    refine ⟨ps, by rw [upd_ne ne]; exact h1, h2, fun pos cv hc => ?_⟩
    obtain ⟨c, e2, e3⟩ := h3 pos cv hc
    refine ⟨c, e2, ?_⟩
    rw [upd_ne (fun z => by rw [z, hu] at e3; rcases hk with ⟨_, rfl⟩ | ⟨_, rfl⟩ <;> cases e3)]
    exact e3
  · by_cases ne : j = i
    · subst ne
      have hi : j < env.length := by
        have := (List.getElem?_eq_some_iff.mp e).1
        rwa [List.length_set] at this
      rw [List.getElem?_set_self hi] at e
      cases e
      rcases h with ⟨xs, vs, rfl, rfl, hz, hr⟩ | ⟨xs, vs, rfl, rfl, hr⟩
      · exact ⟨hz, a, vs, w.2, upd_same, eG, eB, hr⟩
      · exact ⟨a, vs, w.2, upd_same, eG, eB, hr⟩
    · rw [List.getElem?_set_ne (Ne.symm ne)] at e
      have z := S.slot j s' e
      have nb : ∀ {b}, ownAt env σ j b → b ≠ a := fun {b} o z => ne (S.apart j i b o (z ▸ w))
      cases s' with
      | no => trivial
      | v d' => exact z
      | o xs => obtain ⟨zl, b, vs, q1, q2, q⟩ := z; exact ⟨zl, b, vs, q1, by rw [upd_ne (nb ⟨⟨_, e, rfl⟩, q1⟩)]; exact q2, q⟩
      | q xs => obtain ⟨b, vs, q1, q2, q⟩ := z; exact ⟨b, vs, q1, by rw [upd_ne (nb ⟨⟨_, e, rfl⟩, q1⟩)]; exact q2, q⟩
end
end Core
end

section
set_option Elab.async false
set_option linter.all false
set_option maxRecDepth 100000
set_option autoImplicit false
set_option maxHeartbeats 400000
/-! Soundness 10b: statements, one by one. -/
namespace Core
open PySem PySem.Spec PyProof.Rows L2
theorem _root_.L2.PS.imp {X : L2.Cx} {e : Stmt} {t t' : TS} (h : PS X e t) (i : ∀ D σ H, t' D σ H → t D σ H) : PS X e t' := ⟨fun pins s σ H D I hw => h.run pins s σ H D I (i D σ H hw)⟩
theorem _root_.L2.PSs.imp {X : L2.Cx} {e : List Stmt} {t t' : TS} (h : PSs X e t) (i : ∀ D σ H, t' D σ H → t D σ H) : PSs X e t' := ⟨fun pins s σ H D I hw => h.run pins s σ H D I (i D σ H hw)⟩
/-- what the statements' soundness asks of a context -/
structure SOK (C : Ctx) (T : List (Addr × Str)) (cl : Nat → Value) (k : Nat) (X : L2.Cx) (W : WX) (cx : CCx) : Prop where
  x : XOK C T cl k X W cx
  pass : PassesOwn (model X.prog X.w) X.A X.env X.xe
  kind : X.env.blockKind = .function
  cls : ∀ x c, cx.clss.lookup x = some c → ∃ (Ca : Addr) (Bs newId initId : String) (bmB : List Value), X.mg x = some (.ref Ca) ∧ cl c = .ref Ca ∧ ExcBaseFacts Bs newId initId bmB ∧ PySem.W.excIn X.K Ca bmB newId = true ∧ PySem.W.keepIn X.K (.ref Ca) = true ∧ Raises X (.ref Ca)
section
variable {C : Ctx} {T : List (Addr × Str)} {cl : Nat → Value} {k : Nat} {X : L2.Cx} {W : WX} {cx : CCx} {io : List Nat}
theorem s_end {K : PySem.W.Frag} {fl : Fl} {D : Ends} {σ : L2.St} {H : Hp} {ev : Env → Out Fl} (hev : ∀ env, ev env = .ok fl env) (q : TSx K T W cl io ev D σ H) : ∃ B G env, R K T B G env σ H ∧ EndsAt K B D fl env σ G H := by
  obtain ⟨B, G, env, S, h⟩ := q
  rw [hev] at h
  exact ⟨B, G, env, S, h.at (Keep.refl io σ) (GX.refl B G) S⟩
theorem s_pass {pos : Pos} : PS X (.Pass pos) (TSx X.K T W cl io (evS C .pas)) := ps_pass.imp fun D σ H q => by obtain ⟨_, _, _, _, h⟩ := s_end (fl := .next) (fun _ => rfl) q; exact h
theorem s_break {pos : Pos} : PS X (.Break pos) (TSx X.K T W cl io (evS C .brk)) := ps_break.imp fun D σ H q => by obtain ⟨_, _, _, _, h⟩ := s_end (fl := .brk) (fun _ => rfl) q; exact h
theorem s_cont {pos : Pos} : PS X (.Continue pos) (TSx X.K T W cl io (evS C .cnt)) := ps_continue.imp fun D σ H q => by obtain ⟨_, _, _, _, h⟩ := s_end (fl := .cnt) (fun _ => rfl) q; exact h
theorem s_retN {pos : Pos} : PS X (.Return none pos) (TSx X.K T W cl io (evS C .retN)) := ps_retN.imp fun D σ H q => by
  obtain ⟨_, _, _, _, h⟩ := s_end (fl := .ret (.f .none)) (fun _ => rfl) q
  exact h .non .non
theorem s_ret {e : Expr} {c : CE} {pos : Pos} (h : Snd C T cl X W e c) : PS X (.Return (some e) pos) (TSx X.K T W cl io (evS C (.ret c))) := (ps_ret h.v).imp fun D σ H q => by
  obtain ⟨B, G, env, S, q⟩ := q
  have q : FinS X.K T W cl io B G σ ((evE C c env).bind fun r env => .ok (.ret r) env) _ := q
  exact .of S (q.bind.mono fun r e G1 H1 g S1 h1 v rv => h1.at (Keep.refl io σ) (GX.refl B G1) S1 v rv)
theorem no_swap {e : Expr} (h : ∀ a b c d, e ≠ .ListComp a b c d) (hp : ∀ a b c d, e ≠ .SetComp a b c d) (hd : ∀ a b c d f, e ≠ .DictComp a b c d f) (t : Option Expr) (l : Nat) (env : PySem.Env) : swapsWith e t l env = pure false := by
  cases e <;> first | rfl | exact absurd rfl (h _ _ _ _) | exact absurd rfl (hp _ _ _ _) | exact absurd rfl (hd _ _ _ _ _)
theorem s_expr {fe : Expr} {args : List Expr} {kws : List Keyword} {cp pos : Pos} {c : CE} (h : Snd C T cl X W (.Call fe args kws cp) c) : PS X (.Expr (.Call fe args kws cp) pos) (TSx X.K T W cl io (evS C (.exp c))) := (ps_expr h.v rfl).imp fun D σ H q => by
  obtain ⟨B, G, env, S, q⟩ := q
  have q : FinS X.K T W cl io B G σ ((evE C c env).bind fun _ env => .ok .next env) _ := q
  exact .of S (q.bind.mono fun r e G1 H1 g S1 h1 v rv => h1.at (Keep.refl io σ) (GX.refl B G1) S1)
/-! ### stores -/
theorem asg_reads {i : Nat} {c : CE} (hi : i ∉ io) {D : Ends} {σ : L2.St} {H : Hp} (q : TSx X.K T W cl io (evS C (.asg i c)) D σ H) : tAsg (TEx X.K T W cl (evE C c)) (gName i) D σ H := by
  obtain ⟨B, G, env, S, q⟩ := q
  have q : FinS X.K T W cl io B G σ (((evE C c env).bind hold).bind fun s env => .ok .next (env.set i s)) _ := q
  rw [bind_assoc] at q
  refine .of S (q.bind.mono fun r e G1 H1 g S1 h1 v rv => ?_)
  show D.nx (σ.set i (some v)) H1
  cases e1 : hold r e with
  | bad => rw [e1] at h1; exact h1.elim
  | ex x e2 => exact absurd e1 hold_ex
  | ok s e2 =>
    rw [e1] at h1
    obtain ⟨G2, g2, S2⟩ := S1.setH rv e1
    exact (show FinS X.K T W cl io B G1 σ (.ok .next (e2.set i s)) _ from h1).at (fun j hj => List.getElem?_set_ne (fun z => hi (by rw [z]; exact hj))) g2 S2
theorem swap_lc {elt : Expr} {gens : List Comprehension} {scope : Scope} {lp p : Pos} {x : Str} {l : Nat} {env : PySem.Env} : ∃ b, swapsWith (.ListComp elt gens scope lp) (some (.Name x p)) l env = pure b ∧ (b = true → env.kindOf x = some .local) :=
  ⟨_, rfl, fun h => by
    simp only [Bool.and_eq_true] at h
    exact eq_of_beq h.1.1.2⟩
/-- name = [..], stored while the list is made -/
theorem s_lc {elt : Expr} {gens : List Comprehension} {scope : Scope} {lp p pos : Pos} {x : Str} {i n : Nat} {c : CE} (o : XOK C T cl k X W cx) (hc : compE n cx (.ListComp elt gens scope lp) = some c) (hx : cx.own x = some i) (hi : i ∉ io)
    (hsw : swapsWith (.ListComp elt gens scope lp) (some (.Name x p)) pos.line X.env = pure true) (hl : X.env.kindOf x = some .local) : PS X (.Assign [.Name x p] (.ListComp elt gens scope lp) pos) (TSx X.K T W cl io (evS C (.asg i c))) := by
  obtain ⟨k1, _, _⟩ := own_ok o.st hx
  cases n with
  | zero => cases hc
  | succ n =>
    have ih := snd_all (C := C) (T := T) (cl := cl) (k := k) n
    have h : cLc cx (compT n) (compE n) (cIt cx (compE n cx)) elt gens scope = some c := hc
    unfold cLc at h
    split at h
    · rename_i tg iter ifs
      split at h
      · rename_i hb
        rw [Bool.and_eq_true, decide_eq_true_eq] at hb
        split at h
        · rename_i it t cs ce h1 h2 h3 h4
          split at h
          · rename_i hs
            cases h
            rw [List.all_eq_true] at hs
            have hI := c_it o (ih X W cx o) h1
            have hB : BlkOk X.N X.env.scope scope (ownNames cx.N scope) := by
              rw [o.st.N, o.st.sc]
              exact blkOk_by hb.1
            exact (ps_setLc o.st.calm o.st.nd k1 hl hsw hI.1 hB (fun s H A l fp => pg_all (T := T) (o.blk s H scope A l fp).st h2) (fun s H A l fp => pts_snd (compL_snd (ih _ _ _ (o.blk s H scope A l fp)) h3) hb.2) (fun s H A l fp => (ih _ _ _ (o.blk s H scope A l fp) _ _ h4).v) (no_fold hI.2 X.env)).imp fun D σ H q =>
              lc_reads (fun j hj => by have := hs j hj; rwa [List.contains_iff_mem] at this) (asg_reads hi q)
          · cases h
        · cases h
      · cases h
    · cases h
theorem s_asg {e : Expr} {c : CE} {x : Str} {i n : Nat} {p pos : Pos} (o : XOK C T cl k X W cx) (hc : compE n cx e = some c) (hx : cx.own x = some i) (hi : i ∉ io) : PS X (.Assign [.Name x p] e pos) (TSx X.K T W cl io (evS C (.asg i c))) := by
  obtain ⟨h1, h2, h3⟩ := own_ok o.st hx
  have h := snd_all (C := C) (T := T) (cl := cl) (k := k) n X W cx o e c hc
  by_cases hl : ∃ a b c d, e = .ListComp a b c d
  · obtain ⟨elt, gens, scope, lp, rfl⟩ := hl
    obtain ⟨b, hb, hloc⟩ := swap_lc (elt := elt) (gens := gens) (scope := scope) (lp := lp) (p := p) (x := x) (l := pos.line) (env := X.env)
    cases b with
    | false => exact (ps_set o.st.nd h1 h2 h.v hb h3).imp fun D σ H q => asg_reads hi q
    | true => exact s_lc o hc hx hi hb (hloc rfl)
  · have hs := no_swap (e := e) (fun a b c d z => hl ⟨a, b, c, d, z⟩) (fun a b c d z => by subst z; cases n <;> cases hc) (fun a b c d f z => by subst z; cases n <;> cases hc) (some (.Name x p)) pos.line X.env
    exact (ps_set o.st.nd h1 h2 h.v hs h3).imp fun D σ H q => asg_reads hi q
/-- a tuple target -/
theorem unp_reads {n : Nat} {e : Expr} {t : Core.TG} {c : CE} {D : Ends} {σ : L2.St} {H : Hp} (hio : ∀ i ∈ tgNames t, i ∉ io) (q : TSx X.K T W cl io (evS C (.unp t c)) D σ H) : tAsg (TEx X.K T W cl (evE C c)) (gTx T X.K t) D σ H := by
  obtain ⟨B, G, env, S, q⟩ := q
  have q : FinS X.K T W cl io B G σ (((evE C c env).bind frz).bind fun d env => match bindT t d env with
    | some env => .ok .next env
    | none => .bad) (fun fl env' σ' G' H' => EndsAt X.K B D fl env' σ' G' H') := q
  refine TEx.frozenS S q fun x d e G1 H1 g S1 rp h1 => ?_
  cases e1 : bindT t d e with
  | none => rw [e1] at h1; exact h1.elim
  | some e2 =>
    rw [e1] at h1
    exact ⟨B, G1, e, d, e2, S1, rp, e1, fun σ' aft => (show FinS X.K T W cl io B G1 σ (.ok .next e2) (fun fl env' σ' G' H' => EndsAt X.K B D fl env' σ' G' H') from h1).at (fun i hi => aft.2.2 i (fun z => hio i z hi)) (GX.refl B G1) aft.1⟩
theorem compT_io : ∀ {n : Nat} {e : Expr} {t : Core.TG}, compT n cx e = some t → ∀ i ∈ tgNames t, i ∉ cx.io
  | 0, e, t, h => by cases h
  | n + 1, e, t, h => by
    cases e <;> first | cases h | skip
    · rename_i x pos
      unfold compT at h
      split at h
      · split at h
        · cases h
        · rename_i hc
          cases h
          intro i hi
          unfold tgNames at hi
          rw [List.mem_singleton.mp hi]
          simpa using hc
      · cases h
    · rename_i es k2 pos
      unfold compT at h
      obtain ⟨ts, h1, rfl⟩ := Option.map_eq_some_iff.mp h
      have go : ∀ {es : List Expr} {ts : List Core.TG}, compL (compT n cx) es = some ts → ∀ i ∈ tgAll ts, i ∉ cx.io := by
        intro es
        induction es with
        | nil => intro ts h; cases h; intro i hi; cases hi
        | cons e es ih =>
          intro ts h i hi
          obtain ⟨c, cr, a1, a2, rfl⟩ := compL_cons h
          unfold tgAll at hi
          rcases List.mem_append.mp hi with z | z
          · exact compT_io a1 i z
          · exact ih a2 i z
      exact go h1
theorem no_swap_sole {tg e : Expr} (ht : ∀ x p, tg ≠ .Name x p) (l : Nat) (env : PySem.Env) : swapsWithSole [tg] e l env = pure false := by
  cases tg <;> first | exact absurd rfl (ht _ _) | (cases e <;> rfl)
theorem sw_none {ts : List Expr} {k1 : Nat} {p : Pos} {e : Expr} (h : tupOf e = none) (env : PySem.Env) : swappedStores [.Tuple ts k1 p] e env = pure none := by
  cases e <;> first | rfl | cases h
theorem s_unp {ts : List Expr} {k1 n m : Nat} {p pos : Pos} {e : Expr} {t : Core.TG} {c : CE} (o : XOK C T cl k X W cx) (hw : swappedStores [.Tuple ts k1 p] e X.env = pure none) (ht : compT m cx (.Tuple ts k1 p) = some t) (hc : compE n cx e = some c) :
    PS X (.Assign [.Tuple ts k1 p] e pos) (TSx X.K T W cl cx.io (evS C (.unp t c))) :=
  (ps_asg (snd_all (C := C) (T := T) (cl := cl) (k := k) n X W cx o e c hc).v (pg_all (T := T) o.st ht) (no_swap_sole (fun _ _ z => by cases z) _ _) hw rfl).imp fun D σ H q => unp_reads (n := n) (e := e) (compT_io ht) q
/-! ### stores into own lists and dicts -/
theorem bound_val {K : PySem.W.Frag} {B G H : Hp} {σ : L2.St} {env : Env} {i : Nat} (S : R K T B G env σ H) (h : bound env i = true) : ∃ v, σ[i]? = some (some v) := by
  unfold bound at h
  split at h
  · rename_i e; obtain ⟨v, e1, _⟩ := S.slot _ _ e; exact ⟨v, e1⟩
  · rename_i e; obtain ⟨_, a, vs, e1, _⟩ := S.slot _ _ e; exact ⟨_, e1⟩
  · rename_i e; obtain ⟨a, vs, e1, _⟩ := S.slot _ _ e; exact ⟨_, e1⟩
  · cases h
def rSetD : V → V → V → Hp → (Hp → Prop) → Prop := fun o i v H Q => ∃ a H', o = .ref a ∧ DPut H a i v H' ∧ Q H'
theorem set_dict (hu : X.A.units + 1 < cLine) : PSet X rSetD := by
  intro pins s σ H o i v ov iv u Q I ro ri rv h
  obtain ⟨a, H', rfl, g, q⟩ := h
  cases ro
  exact d_setItem hu I g ri rv fun s1 I1 => ⟨H', I1, q⟩
theorem PSet.or {r r' : TSet} (h : PSet X r) (h' : PSet X r') : PSet X (fun o i v H Q => r o i v H Q ∨ r' o i v H Q) := by
  intro pins s σ H o i v ov iv u Q I ro ri rv q
  rcases q with q | q
  · exact h pins s σ H o i v ov iv u Q I ro ri rv q
  · exact h' pins s σ H o i v ov iv u Q I ro ri rv q
theorem ixN_eq (n : Nat) (i : Int) : L2.ixN n i = Core.ixN n i := rfl
theorem RpAll.setAt {K : PySem.W.Frag} {G : Hp} {vs : List V} {ds : List D} {v : V} {d : D} (r : RpAll K G vs ds) (h : Rp K G v d) (p : Nat) : RpAll K G (vs.set p v) (ds.set p d) := RpAll.set h p r
theorem s_sto {x : Str} {p p2 pos : Pos} {ix e : Expr} {i : Nat} {cx' ce : CE} (hu : X.A.units + 200 < cLine) (hv : X.N[i]? = some x ∧ Vis X.env.scope x ∧ (x == ("__debug__" : Str)) = false ∧ (x == ("__classdict__" : Str)) = false) (hi : Snd C T cl X W ix cx') (he : Snd C T cl X W e ce) :
    PS X (.Assign [.Subscript (.Name x p) ix p2] e pos) (TSx X.K T W cl io (evS C (.sto i cx' ce))) := by
  have pg : PG X (.Subscript (.Name x p) ix p2) (gSub (tVar i) (TEx X.K T W cl (evE C cx')) (fun o i v H Q => rSetL o i v H Q ∨ rSetD o i v H Q)) := pg_sub (pe_var hv.1 hv.2.1 hv.2.2.1 hv.2.2.2) hi.v (Core.PSet.or set_list (set_dict (by omega))) (by
    have := hi.pl
    intro v
    cases ix <;> first | rfl | cases this)
  refine (ps_asg he.v pg (no_swap_sole (fun _ _ z => by cases z) _ _) (by cases e <;> rfl) rfl).imp fun D σ H q => ?_
  obtain ⟨B, G, env, S, q⟩ := q
  have q : FinS X.K T W cl io B G σ (((evE C ce env).bind frz).bind fun d env => if bound env i then ((evE C cx' env).bind frz).bind fun k env => match env[i]? with
    | some (.o xs) => match k with
      | .int j => match Core.ixN xs.length j with
        | some p => .ok .next (env.set i (.o (xs.set p d)))
        | none => .bad
      | _ => .bad
    | some (.q kvs) => if keyOk k && decide (kvs.length < lineMax) then .ok .next (env.set i (.q (putD k d kvs))) else .bad
    | _ => .bad
    else .bad) (fun fl env' σ' G' H' => EndsAt X.K B D fl env' σ' G' H') := q
  refine TEx.frozenS S q fun v d e1 G1 H1 g1 S1 r1 h1 => ?_
  by_cases hb : bound e1 i = true
  · rw [if_pos hb] at h1
    obtain ⟨w, hw⟩ := bound_val S1 hb
    refine ⟨w, hw, TEx.frozenS S1 h1 fun y kd e2 G2 H2 g2 S2 r2 h2 => ?_⟩
    cases e3 : e2[i]? with
    | none => rw [e3] at h2; exact h2.elim
    | some s =>
      rw [e3] at h2
      cases s with
      | no => exact h2.elim
      | v d' => exact h2.elim
      | o xs =>
        obtain ⟨zl, a, vs, q1, q2, q3, q4, q5⟩ := S2.slot i _ e3
        rw [hw] at q1; cases q1
        cases kd <;> first | exact h2.elim | skip
        rename_i j
        have h2 : FinS X.K T W cl io B G2 σ (match Core.ixN xs.length j with
          | some p => .ok .next (e2.set i (.o (xs.set p d)))
          | none => .bad) (fun fl env' σ' G' H' => EndsAt X.K B D fl env' σ' G' H') := h2
        cases e4 : Core.ixN xs.length j with
        | none => rw [e4] at h2; exact h2.elim
        | some pn =>
          rw [e4] at h2
          cases r2
          have r1' := Rp.mono g2.same _ _ r1
          refine .inl ⟨a, vs, j, pn, rfl, rfl, q2, by rw [q5.length]; exact e4, ?_⟩
          exact (show FinS X.K T W cl io B G2 σ (.ok .next (e2.set i (.o (xs.set pn d)))) (fun fl env' σ' G' H' => EndsAt X.K B D fl env' σ' G' H') from h2).at (Keep.refl io σ) (GX.refl B G2) (S2.ownUpd ⟨⟨_, e3, rfl⟩, hw⟩ (.inl ⟨_, _, rfl, rfl, by rw [List.length_set]; exact zl, q5.setAt r1' pn⟩))
      | q kvs =>
        obtain ⟨a, vs, q1, q2, q3, q4, q5⟩ := S2.slot i _ e3
        rw [hw] at q1; cases q1
        have h2 : FinS X.K T W cl io B G2 σ (if keyOk kd && decide (kvs.length < lineMax) then .ok .next (e2.set i (.q (putD kd d kvs))) else .bad) (fun fl env' σ' G' H' => EndsAt X.K B D fl env' σ' G' H') := h2
        split at h2
        · rename_i hk
          rw [Bool.and_eq_true, decide_eq_true_eq] at hk
          obtain ⟨key, rfl, rfl, hr⟩ := rp_key hk.1 (.rp r2 : Pk X.K G2 H2 y kd)
          have r1' := Rp.mono g2.same _ _ r1
          refine .inr ⟨a, _, rfl, DPut.k q2 (by rw [q5.length]; exact hk.2), ?_⟩
          exact h2.at (Keep.refl io σ) (GX.refl B G2) (S2.ownUpd ⟨⟨_, e3, rfl⟩, hw⟩ (.inr ⟨_, _, rfl, rfl, put_rel (hr G2) r1' q5⟩))
        · exact h2.elim
  · rw [if_neg hb] at h1; exact h1.elim
/-- xs.append(x) -/
theorem s_apd {x : Str} {p apos cpos pos : Pos} {e : Expr} {i : Nat} {ce : CE} (hline : (apos.endLine == cpos.line) = true) (hv : X.N[i]? = some x ∧ Vis X.env.scope x ∧ (x == ("__debug__" : Str)) = false ∧ (x == ("__classdict__" : Str)) = false) (he : Snd C T cl X W e ce) :
    PS X (.Expr (.Call (.Attribute (.Name x p) "append" apos) [e] [] cpos) pos) (TSx X.K T W cl io (evS C (.apd i ce))) := by
  have hfew : ((backTo cpos (starEach [e] X.env)).all (fun x => !x.1) && (backToKw cpos (keywordEach [] X.env)).all (fun x => x.1.isSome) && decide (([e] : List Expr).length + ([] : List Keyword).length + (if ([] : List Keyword).isEmpty then 0 else 1) < 30)) = true := by
    rw [star_cons he.pl]; rfl
  have pe := pe_bm PySem.F.plainAttrs_list PySem.F.slot_list_append PySem.F.type_list_append mt_append (pe_var (pos := p) hv.1 hv.2.1 hv.2.2.1 hv.2.2.2) (pa_cons he.v pa_nil (star_cons he.pl [] X.env)) rfl hfew hline (star_cons he.pl [] X.env) rfl
  refine (ps_expr pe rfl).imp fun D σ H q => ?_
  obtain ⟨B, G, env, S, q⟩ := q
  have q : FinS X.K T W cl io B G σ (match env[i]? with
    | some (.o _) => ((evE C ce env).bind frz).bind fun d env => match env[i]? with
      | some (.o xs) => if xs.length < lineMax then .ok .next (env.set i (.o (xs ++ [d]))) else .bad
      | _ => .bad
    | _ => .bad) (fun fl env' σ' G' H' => EndsAt X.K B D fl env' σ' G' H') := q
  cases e0 : env[i]? with
  | none => rw [e0] at q; exact q.elim
  | some s =>
    rw [e0] at q
    cases s <;> first | exact q.elim | skip
    obtain ⟨_, a, vs0, hw, hl0, _⟩ := S.slot i _ e0
    refine ⟨_, hw, .inl ⟨rfl, vs0, .inl (.inl hl0)⟩, TEx.frozenS S q fun y d e1 G1 H1 g1 S1 r1 h1 => ?_⟩
    cases e3 : e1[i]? with
    | none => rw [e3] at h1; exact h1.elim
    | some s =>
      rw [e3] at h1
      cases s <;> first | exact h1.elim | skip
      rename_i xs
      obtain ⟨zl, a', vs, q1, q2, q3, q4, q5⟩ := S1.slot i _ e3
      rw [hw] at q1; cases q1
      have h1 : FinS X.K T W cl io B G1 σ (if xs.length < lineMax then .ok .next (e1.set i (.o (xs ++ [d]))) else .bad) (fun fl env' σ' G' H' => EndsAt X.K B D fl env' σ' G' H') := h1
      split at h1
      · rename_i hz
        refine ⟨a, vs, y, rfl, rfl, q2, by rw [q5.length]; exact hz, ?_⟩
        exact h1.at (Keep.refl io σ) (GX.refl B G1) (S1.ownUpd ⟨⟨_, e3, rfl⟩, hw⟩ (.inl ⟨_, _, rfl, rfl, by rw [List.length_append]; exact hz, q5.snoc r1⟩))
      · exact h1.elim
end
end Core
end

section
set_option Elab.async false
set_option linter.all false
set_option maxRecDepth 100000
set_option autoImplicit false
set_option maxHeartbeats 400000
/-! Soundness 10c: branches, loops, raise. -/
namespace Core
open PySem PySem.Spec PyProof.Rows L2
section
variable {C : Ctx} {T : List (Addr × Str)} {cl : Nat → Value} {k : Nat} {X : L2.Cx} {W : WX} {cx : CCx} {io : List Nat}
theorem s_if {c : Expr} {a b : List Stmt} {pos : Pos} {cc : CE} {ca cb : List CS} (hc : Snd C T cl X W c cc) (ha : PSs X a (TSx X.K T W cl io (evSs C ca))) (hb : PSs X b (TSx X.K T W cl io (evSs C cb))) : PS X (.If c a b pos) (TSx X.K T W cl io (evS C (.ite cc ca cb))) :=
  (ps_if hc.t ha hb).imp fun D σ H q => by
    obtain ⟨B, G, env, S, q⟩ := q
    have q : FinS X.K T W cl io B G σ ((evT C cc env).bind fun t env => if t then evSs C ca env else evSs C cb env) (fun fl env' σ' G' H' => EndsAt X.K B D fl env' σ' G' H') := q
    refine ⟨B, G, env, S, q.bind.mono fun t e G1 H1 g S1 h => ?_⟩
    cases t with
    | true => exact ⟨B, G1, e, S1, h⟩
    | false => exact ⟨B, G1, e, S1, h⟩
theorem ss_nil : PSs X [] (TSx X.K T W cl io (evSs C [])) := pss_nil.imp fun D σ H q => by
  obtain ⟨B, G, env, S, h⟩ := s_end (fl := .next) (fun _ => rfl) q
  exact h
theorem ss_cons {st : Stmt} {rest : List Stmt} {c : CS} {cs : List CS} (h1 : PS X st (TSx X.K T W cl io (evS C c))) (h2 : PSs X rest (TSx X.K T W cl io (evSs C cs))) : PSs X (st :: rest) (TSx X.K T W cl io (evSs C (c :: cs))) :=
  (pss_cons h1 h2).imp fun D σ H q => by
    obtain ⟨B, G, env, S, q⟩ := q
    have q : FinS X.K T W cl io B G σ ((evS C c env).bind fun f env => match f with
      | .next => evSs C cs env
      | f => .ok f env) (fun fl env' σ' G' H' => EndsAt X.K B D fl env' σ' G' H') := q
    refine ⟨B, G, env, S, ?_⟩
    cases e : evS C c env with
    | bad => rw [e] at q; exact q.elim
    | ex x e2 => rw [e] at q; exact q
    | ok fl e2 =>
      rw [e] at q
      intro σ' G' H' kp g S'
      cases fl with
      | next => exact ⟨B, G', e2, S', FinS.grow (o := evSs C cs e2) q kp g⟩
      | brk => exact q σ' G' H' kp g S'
      | cnt => exact q σ' G' H' kp g S'
      | ret r => exact q σ' G' H' kp g S'
theorem s_while {c : Expr} {b : List Stmt} {pos : Pos} {cc : CE} {cb : List CS} (hp : PassesOwn (model X.prog X.w) X.A X.env X.xe) (hc : Snd C T cl X W c cc) (hb : PSs X b (TSx X.K T W cl io (evSs C cb))) : PS X (.While c b [] pos) (TSx X.K T W cl io (evS C (.whl cc cb))) :=
  (ps_while hp hc.t hb).imp fun D σ H q => by
    obtain ⟨B, G, env, S, q⟩ := q
    refine ⟨fun m σ' H' => ∃ G' env', R X.K T B G' env' σ' H' ∧ FinS X.K T W cl io B G' σ' (whileGo (evT C cc) (evSs C cb) m env') (fun fl env' σ' G' H' => EndsAt X.K B D fl env' σ' G' H'), ⟨C.turns, G, env, S, q⟩, ?_⟩
    rintro m σ1 H1 ⟨G1, e1, S1, q1⟩
    cases m with
    | zero => exact q1.elim
    | succ m =>
      have q1 : FinS X.K T W cl io B G1 σ1 ((evT C cc e1).bind fun b env => if b then (match evSs C cb env with
        | .ok .next env => whileGo (evT C cc) (evSs C cb) m env
        | .ok .cnt env => whileGo (evT C cc) (evSs C cb) m env
        | .ok .brk env => .ok .next env
        | r => r) else .ok .next env) (fun fl env' σ' G' H' => EndsAt X.K B D fl env' σ' G' H') := q1
      refine ⟨B, G1, e1, S1, q1.bind.mono fun b e2 G2 H2 g2 S2 q2 => ?_⟩
      cases b with
      | false => exact (show FinS X.K T W cl io B G2 σ1 (.ok .next e2) (fun fl env' σ' G' H' => EndsAt X.K B D fl env' σ' G' H') from q2).at (Keep.refl io σ1) (GX.refl B G2) S2
      | true =>
        have q2 : FinS X.K T W cl io B G2 σ1 (match evSs C cb e2 with
          | .ok .next env => whileGo (evT C cc) (evSs C cb) m env
          | .ok .cnt env => whileGo (evT C cc) (evSs C cb) m env
          | .ok .brk env => .ok .next env
          | r => r) (fun fl env' σ' G' H' => EndsAt X.K B D fl env' σ' G' H') := q2
        dsimp only
        rw [if_pos rfl]
        refine ⟨fun σ' H' => ∃ G' env', R X.K T B G' env' σ' H' ∧ FinS X.K T W cl io B G' σ' (whileGo (evT C cc) (evSs C cb) m env') (fun fl env' σ' G' H' => EndsAt X.K B D fl env' σ' G' H'), fun σ' H' z => ⟨m, Nat.lt_succ_self m, z⟩, B, G2, e2, S2, ?_⟩
        cases e3 : evSs C cb e2 with
        | bad => rw [e3] at q2; exact q2.elim
        | ex x e4 => rw [e3] at q2; exact q2
        | ok fl e4 =>
          rw [e3] at q2
          intro σ' G' H' kp g S'
          cases fl with
          | next => exact ⟨G', e4, S', FinS.grow (o := whileGo (evT C cc) (evSs C cb) m e4) q2 kp g⟩
          | cnt => exact ⟨G', e4, S', FinS.grow (o := whileGo (evT C cc) (evSs C cb) m e4) q2 kp g⟩
          | brk => exact (show FinS X.K T W cl io B G2 σ1 (.ok .next e4) (fun fl env' σ' G' H' => EndsAt X.K B D fl env' σ' G' H') from q2).at kp g S'
          | ret r => exact (show FinS X.K T W cl io B G2 σ1 (.ok (.ret r) e4) (fun fl env' σ' G' H' => EndsAt X.K B D fl env' σ' G' H') from q2).at kp g S'
theorem evI_len {K : PySem.W.Frag} {B G : Hp} {σ : L2.St} {env : Env} : True := trivial
theorem s_for {tg iter : Expr} {b : List Stmt} {pos : Pos} {n : Nat} {t : Core.TG} {it : IT} {cb : List CS} (hp : PassesOwn (model X.prog X.w) X.A X.env X.xe) (st : StOk X cx) (hi : SndI C T cl X W tg iter it) (ht : compT n cx tg = some t) (hb : PSs X b (TSx X.K T W cl cx.io (evSs C cb))) :
    PS X (.For tg iter b [] pos) (TSx X.K T W cl cx.io (evS C (.for_ t it cb))) :=
  (ps_for hp st.calm hi.1 (pg_all (T := T) st ht) hb (no_fold hi.2 X.env)).imp fun D σ H q => by
    have hio := compT_io ht
    obtain ⟨B, G, env, S, q⟩ := q
    have q : FinS X.K T W cl cx.io B G σ ((evI C it env).bind fun xs env => forGo t (evSs C cb) xs env) (fun fl env' σ' G' H' => EndsAt X.K B D fl env' σ' G' H') := q
    refine ⟨B, G, env, S, q.bind.mono fun ds e1 G1 H1 g1 S1 q1 hlm J hJ => ?_⟩
    refine ⟨fun i m σ' H' => ∃ G' env', m = ds.length - i ∧ i ≤ ds.length ∧ GX B G1 G' ∧ R X.K T B G' env' σ' H' ∧ FinS X.K T W cl cx.io B G' σ' (forGo t (evSs C cb) (ds.drop i) env') (fun fl env' σ' G' H' => EndsAt X.K B D fl env' σ' G' H'), ⟨ds.length, G1, e1, rfl, Nat.zero_le _, GX.refl B G1, S1, q1⟩, ?_⟩
    rintro i m σ2 H2 ⟨G2, e2, rfl, hle, g2, S2, q2⟩
    obtain ⟨js, jd⟩ := hJ i G2 H2 g2.same S2.gh
    by_cases hlt : i < ds.length
    · obtain ⟨d, hd⟩ : ∃ d, ds[i]? = some d := ⟨ds[i], List.getElem?_eq_getElem hlt⟩
      have hdrop : ds.drop i = d :: ds.drop (i + 1) := by
        rw [List.drop_eq_getElem_cons hlt]
        rw [List.getElem?_eq_getElem hlt] at hd
        rw [Option.some.inj hd]
      rw [hdrop] at q2
      have q2 : FinS X.K T W cl cx.io B G2 σ2 (match bindT t d e2 with
        | none => .bad
        | some env => match evSs C cb env with
          | .ok .next env => forGo t (evSs C cb) (ds.drop (i + 1)) env
          | .ok .cnt env => forGo t (evSs C cb) (ds.drop (i + 1)) env
          | .ok .brk env => .ok .next env
          | r => r) (fun fl env' σ' G' H' => EndsAt X.K B D fl env' σ' G' H') := q2
      obtain ⟨jgo, jy⟩ := jd d hd
      refine .inr ⟨jgo, fun σ' H' => ∃ G' env', GX B G1 G' ∧ R X.K T B G' env' σ' H' ∧ FinS X.K T W cl cx.io B G' σ' (forGo t (evSs C cb) (ds.drop (i + 1)) env') (fun fl env' σ' G' H' => EndsAt X.K B D fl env' σ' G' H'), fun σ' H' z => ?_, fun x H' y => ?_⟩
      · obtain ⟨G', env', z1, z2, z3⟩ := z
        exact ⟨ds.length - (i + 1), by omega, G', env', rfl, hlt, z1, z2, z3⟩
      · obtain ⟨G3, gf, rp⟩ := jy x H' y
        have S3 := S2.laid gf
        have g3 : GX B G2 G3 := gf.gx S2.bh
        cases e3 : bindT t d e2 with
        | none => rw [e3] at q2; exact q2.elim
        | some e4 =>
          rw [e3] at q2
          refine ⟨B, G3, e2, d, e4, S3, rp, e3, fun σ3 aft => ⟨B, G3, e4, aft.1, ?_⟩⟩
          have kp0 : Keep cx.io σ2 σ3 := fun i hi => aft.2.2 i (fun z => hio i z hi)
          have q3 : FinS X.K T W cl cx.io B G2 σ2 (match evSs C cb e4 with
            | .ok .next env => forGo t (evSs C cb) (ds.drop (i + 1)) env
            | .ok .cnt env => forGo t (evSs C cb) (ds.drop (i + 1)) env
            | .ok .brk env => .ok .next env
            | r => r) (fun fl env' σ' G' H' => EndsAt X.K B D fl env' σ' G' H') := q2
          cases e5 : evSs C cb e4 with
          | bad => rw [e5] at q3; exact q3.elim
          | ex x e6 => rw [e5] at q3; exact fun σ' G' H' kp g S' => q3 σ' G' H' (kp0.trans kp) (g3.trans g) S'
          | ok fl e6 =>
            rw [e5] at q3
            intro σ' G' H' kp g S'
            cases fl with
            | next => exact ⟨G', e6, g2.trans (g3.trans g), S', FinS.grow (o := forGo t (evSs C cb) (ds.drop (i + 1)) e6) q3 (kp0.trans kp) (g3.trans g)⟩
            | cnt => exact ⟨G', e6, g2.trans (g3.trans g), S', FinS.grow (o := forGo t (evSs C cb) (ds.drop (i + 1)) e6) q3 (kp0.trans kp) (g3.trans g)⟩
            | brk => exact (show FinS X.K T W cl cx.io B G2 σ2 (.ok .next e6) (fun fl env' σ' G' H' => EndsAt X.K B D fl env' σ' G' H') from q3).at (kp0.trans kp) (g3.trans g) S'
            | ret r => exact (show FinS X.K T W cl cx.io B G2 σ2 (.ok (.ret r) e6) (fun fl env' σ' G' H' => EndsAt X.K B D fl env' σ' G' H') from q3).at (kp0.trans kp) (g3.trans g) S'
    · have hie : i = ds.length := by omega
      rw [hie, List.drop_length] at q2
      exact .inl ⟨js hie, (show FinS X.K T W cl cx.io B G2 σ2 (.ok .next e2) (fun fl env' σ' G' H' => EndsAt X.K B D fl env' σ' G' H') from q2).at (Keep.refl _ σ2) (GX.refl B G2) S2⟩
theorem s_raise {x m : Str} {p p2 p3 pos : Pos} {j c : Nat} (o : SOK C T cl k X W cx) (hg : cx.glob x = true) (hc : cx.clss.lookup x = some c) : PS X (.Raise (some (.Call (.Name x p) [.Constant (.str m) j p2] [] p3)) none pos) (TSx X.K T W cl io (evS C (.rai c))) := by
  obtain ⟨Ca, Bs, newId, initId, bmB, h1, h2, h3, h4, h5, h6⟩ := o.cls x c hc
  obtain ⟨g1, g2, _⟩ := glob_of o.x.st hg
  refine (ps_raise o.x.st.calm o.x.takes (pmk_own h3 h4 h1 h5 h6 g1 g2)).imp fun D σ H q => ?_
  obtain ⟨B, G, env, S, q⟩ := q
  have q : FinS X.K T W cl io B G σ (.ex ⟨c, none⟩ env) (fun fl env' σ' G' H' => EndsAt X.K B D fl env' σ' G' H') := q
  have := q σ G H (Keep.refl io σ) (GX.refl B G) S
  rw [h2] at this
  exact this
end
end Core
end

section
set_option Elab.async false
set_option linter.all false
set_option maxRecDepth 100000
set_option autoImplicit false
set_option maxHeartbeats 400000
/-! Soundness 10d: a, b = x, y; every statement. -/
namespace Core
open PySem PySem.Spec PyProof.Rows L2
section
variable {C : Ctx} {T : List (Addr × Str)} {cl : Nat → Value} {k : Nat} {X : L2.Cx} {W : WX} {cx : CCx} {io : List Nat} {K : PySem.W.Frag} {G H : Hp} {σ : L2.St} {env : Env}
/-- a new list's slot -/
def newS (d : D) (s : Sl) : Prop := (∃ xs, d = .list xs ∧ s = .o xs) ∨ ∃ kvs, d = .dict kvs ∧ s = .q kvs
/-- values that are held to be stored -/
inductive HR (K : PySem.W.Frag) (G : Hp) (env : Env) (σ : L2.St) (H : Hp) : Hp → List V → List Sl → Prop
  | nil {B : Hp} : HR K G env σ H B [] []
  | v {B : Hp} {v : V} {d : D} {vs : List V} {ss : List Sl} : Rp K G v d → HR K G env σ H B vs ss → HR K G env σ H B (v :: vs) (.v d :: ss)
  | n {B B1 : Hp} {v : V} {d : D} {s : Sl} {vs : List V} {ss : List Sl} : Same B B1 → (∀ a, v = .ref a → ∃ o, B1 a = some o) → RVR K B G env σ H v (.n d) → newS d s → HR K G env σ H B1 vs ss → HR K G env σ H B (v :: vs) (s :: ss)
theorem RVR.heldN {B : Hp} {v : V} {d : D} (S : R K T B G env σ H) (h : RVR K B G env σ H v (.n d)) : ∃ B1, Same B B1 ∧ R K T B1 G env σ H ∧ (∀ a, v = .ref a → ∃ o, B1 a = some o) ∧
    ∀ env' G' H', GX B1 G G' → R K T B1 G' env' σ H' → RVR K B G' env' σ H' v (.n d) := by
  have keep : ∀ (a : Addr) (o : HO), notTbl o → H a = some o → G a = none → B a = none → (∀ i, ¬ ownAt env σ i a) → Same B (upd B a o) ∧ R K T (upd B a o) G env σ H ∧
      ∀ env' G' H', GX (upd B a o) G G' → R K T (upd B a o) G' env' σ H' → H' a = some o ∧ G' a = none ∧ ∀ i, ¬ ownAt env' σ i a := by
    intro a o nt e2 e3 e4 e6
    refine ⟨fun b u q => ?_, S.more (fun b u q => ?_) (fun i b q => ?_) (S.tab.updB e2 nt), fun env' G' H' g S' => ⟨S'.bh _ _ upd_same, ?_, fun i q => ?_⟩⟩
    · rw [upd_ne (ne_of_none q e4)]; exact q
    · by_cases z : b = a
      · subst z; rw [upd_same] at q; cases q; exact e2
      · rw [upd_ne z] at q; exact S.bh _ _ q
    · rw [upd_ne (fun z => e6 i (by rw [← z]; exact q))]; exact (S.own q).2.1
    · cases z : G' a with
      | none => rfl
      | some u =>
        rcases g.new a u z with z | z
        · rw [e3] at z; cases z
        · rw [upd_same] at z; cases z
    · have z := (S'.own q).2.1
      rw [upd_same] at z; cases z
  cases d with
  | list xs =>
    obtain ⟨zl, a, vs, rfl, e2, e3, e4, e5, e6⟩ := h
    obtain ⟨k1, k2, k3⟩ := keep a _ (fun _ z => by cases z) e2 e3 e4 e6
    exact ⟨_, k1, k2, fun b e => by cases e; exact ⟨_, upd_same⟩, fun env' G' H' g S' => let ⟨z1, z2, z3⟩ := k3 env' G' H' g S'; ⟨zl, a, vs, rfl, z1, z2, e4, RpAll.mono g.same _ _ e5, z3⟩⟩
  | dict xs =>
    obtain ⟨a, vs, rfl, e2, e3, e4, e5, e6⟩ := h
    obtain ⟨k1, k2, k3⟩ := keep a _ (fun _ z => by cases z) e2 e3 e4 e6
    exact ⟨_, k1, k2, fun b e => by cases e; exact ⟨_, upd_same⟩, fun env' G' H' g S' => let ⟨z1, z2, z3⟩ := k3 env' G' H' g S'; ⟨a, vs, rfl, z1, z2, e4, RpKv.mono g.same _ _ e5, z3⟩⟩
  | none => exact h.elim
  | bool _ => exact h.elim
  | int _ => exact h.elim
  | str _ => exact h.elim
  | tuple _ => exact h.elim
/-- held, or known for good -/
theorem hold_cases {r : RV} {s : Sl} {e e2 : Env} (h : hold r e = .ok s e2) : (∃ d, s = .v d ∧ frz r e = .ok d e2) ∨ ∃ d, r = .n d ∧ newS d s ∧ e2 = e := by
  have fz : ∀ {r : RV}, ((frz r e).bind fun d env => Out.ok (Sl.v d) env) = .ok s e2 → ∃ d, s = .v d ∧ frz r e = .ok d e2 := fun {r} z => by
    cases q : frz r e with
    | bad => rw [q] at z; cases z
    | ex y e3 => exact absurd q frz_ex
    | ok d e3 => rw [q] at z; cases z; exact ⟨d, rfl, rfl⟩
  cases r with
  | f d => exact .inl (fz (r := .f d) h)
  | b i => exact .inl (fz (r := .b i) h)
  | n d =>
    cases d with
    | list xs => cases h; exact .inr ⟨_, rfl, .inl ⟨_, rfl, rfl⟩, rfl⟩
    | dict xs => cases h; exact .inr ⟨_, rfl, .inr ⟨_, rfl, rfl⟩, rfl⟩
    | none => exact .inl (fz (r := .n .none) h)
    | bool b => exact .inl (fz (r := .n (.bool b)) h)
    | int b => exact .inl (fz (r := .n (.int b)) h)
    | str b => exact .inl (fz (r := .n (.str b)) h)
    | tuple b => exact .inl (fz (r := .n (.tuple b)) h)
def THx (T : List (Addr × Str)) (cl : Nat → Value) (K : PySem.W.Frag) (W : WX) (ev : Env → Out (List Sl)) : TA := fun σ H Q => ∃ B G env, R K T B G env σ H ∧ Fin K T W cl B G σ (ev env) fun ss env' G' H' => ∀ vs, HR K G' env' σ H' B vs ss → Q vs H'
theorem pa_hs {es : List Expr} {cs : List CE} (h : SndL C T cl X W es cs) : PA X es (THx T cl X.K W (evHolds C cs)) := by
  induction h with
  | nil =>
    refine pa_nil.imp fun σ H Q q => ?_
    obtain ⟨B, G, env, S, h⟩ := q
    exact (show Fin _ _ _ _ _ _ _ (.ok [] env) _ from h).at S [] .nil
  | @cons e es c cs he hes ih =>
    refine (pa_cons he.v ih (star_cons he.pl es X.env)).imp fun σ H Q q => ?_
    obtain ⟨B, G, env, S, h⟩ := q
    have h : Fin X.K T W cl B G σ (((evE C c env).bind hold).bind fun s env => (evHolds C cs env).bind fun ss env => .ok (s :: ss) env) (fun ss env' G' H' => ∀ vs, HR X.K G' env' σ H' B vs ss → Q vs H') := h
    rw [bind_assoc] at h
    refine TEx.one S h fun x r e1 G1 H1 g1 S1 rv h1 => ?_
    cases e2 : hold r e1 with
    | bad => rw [e2] at h1; exact h1.elim
    | ex y e3 => exact absurd e2 hold_ex
    | ok s e3 =>
      rw [e2] at h1
      have h1 : Fin X.K T W cl B G1 σ ((evHolds C cs e3).bind fun ss env => .ok (s :: ss) env) (fun ss env' G' H' => ∀ vs, HR X.K G' env' σ H' B vs ss → Q vs H') := h1
      rcases hold_cases e2 with ⟨d, rfl, hf⟩ | ⟨d, rfl, hn, rfl⟩
      · obtain ⟨G2, g2, S2, rp⟩ := rv.frozen S1 hf
        exact ⟨B, G2, e3, S2, (Fin.grow h1 g2).bind.mono fun ss e4 G4 H4 g4 S4 h4 vs hr => h4.at S4 (x :: vs) (.v (Rp.mono g4.same _ _ rp) hr)⟩
      · obtain ⟨B1, k1, S1', hb, hold'⟩ := rv.heldN S1
        exact ⟨B1, G1, e3, S1', (h1.bind.weak k1).mono fun ss e4 G4 H4 g4 S4 ⟨g5, S5, h4⟩ vs hr => h4.at S5 (x :: vs) (.n k1 hb (hold' e4 G4 H4 g4 S4) hn hr)⟩
def setS : List Nat → List V → L2.St → L2.St
  | i :: is, v :: vs, σ => setS is vs (σ.set i (some v))
  | _, _, σ => σ
/-- a store elsewhere -/
theorem HR.move {B : Hp} {vs : List V} {ss : List Sl} (h : HR K G env σ H B vs ss) : ∀ {i : Nat} {v : V} {s : Sl}, (∀ a, v = .ref a → isOwn s = true → ∃ o, B a = some o) → HR K G (env.set i s) (σ.set i (some v)) H B vs ss := by
  induction h with
  | nil => intro i v s _; exact .nil
  | v r _ ih => intro i v s hb; exact .v r (ih hb)
  | @n B B1 v0 d s0 vs ss k1 hb1 rv hn _ ih =>
    intro i v s hb
    refine .n k1 hb1 ?_ hn (ih fun a e o => let ⟨u, z⟩ := hb a e o; ⟨u, k1 _ _ z⟩)
    have off : ∀ {a : Addr}, B a = none → (∀ j, ¬ ownAt env σ j a) → ∀ j, ¬ ownAt (env.set i s) (σ.set i (some v)) j a := fun {a} e n j o => by
      rcases set_own o with ⟨_, e2, o2⟩ | ⟨_, o2⟩
      · obtain ⟨u, z⟩ := hb a e2 o2
        rw [e] at z; cases z
      · exact n j o2
    rcases hn with ⟨xs, rfl, _⟩ | ⟨xs, rfl, _⟩
    · obtain ⟨z, a, ws, e1, e2, e3, e4, e5, e6⟩ := rv; exact ⟨z, a, ws, e1, e2, e3, e4, e5, off e4 e6⟩
    · obtain ⟨a, ws, e1, e2, e3, e4, e5, e6⟩ := rv; exact ⟨a, ws, e1, e2, e3, e4, e5, off e4 e6⟩
theorem HR.laid {Bx B : Hp} {G' H' : Hp} (S : R K T Bx G env σ H) (g : GF H G G' H') {vs : List V} {ss : List Sl} (h : HR K G env σ H B vs ss) : HR K G' env σ H' B vs ss := by
  induction h with
  | nil => exact .nil
  | v r _ ih => exact .v (Rp.mono g.gg _ _ r) ih
  | @n B B1 v0 d s0 vs ss k1 hb1 rv hn _ ih =>
    refine .n k1 hb1 ?_ hn ih
    have keep : ∀ {a : Addr} {o : HO}, H a = some o → G a = none → H' a = some o ∧ G' a = none := fun {a o} e1 e2 => ⟨g.hh _ _ e1, by
      cases z : G' a with
      | none => rfl
      | some u =>
        rcases g.new _ _ z with z | z
        · rw [e2] at z; cases z
        · rw [e1] at z; cases z⟩
    rcases hn with ⟨xs, rfl, _⟩ | ⟨xs, rfl, _⟩
    · obtain ⟨z, a, ws, e1, e2, e3, e4, e5, e6⟩ := rv; exact ⟨z, a, ws, e1, (keep e2 e3).1, (keep e2 e3).2, e4, RpAll.mono g.gg _ _ e5, e6⟩
    · obtain ⟨a, ws, e1, e2, e3, e4, e5, e6⟩ := rv; exact ⟨a, ws, e1, (keep e2 e3).1, (keep e2 e3).2, e4, RpKv.mono g.gg _ _ e5, e6⟩
theorem HR.length {B : Hp} {vs : List V} {ss : List Sl} (h : HR K G env σ H B vs ss) : vs.length = ss.length := by
  induction h with
  | nil => rfl
  | v _ _ ih => rw [List.length_cons, List.length_cons, ih]
  | n _ _ _ _ _ ih => rw [List.length_cons, List.length_cons, ih]
/-- all are stored -/
theorem set_all : ∀ {is : List Nat} {vs : List V} {ss : List Sl} {B' B : Hp} {env : Env} {σ : L2.St}, is.length = ss.length → Same B B' → HR K G env σ H B' vs ss → R K T B G env σ H → R K T B G (setAll is ss env) (setS is vs σ) H
  | [], vs, [], B', B, env, σ, _, _, h, S => by cases h; exact S
  | [], vs, _ :: _, B', B, env, σ, hl, _, h, S => by simp at hl
  | _ :: _, vs, [], B', B, env, σ, hl, _, h, S => by simp at hl
  | i :: is, _, _, B', B, env, σ, hl, kb, .v r hr, S => by
    refine set_all (is := is) (by simpa using hl) kb (hr.move fun a e o => by cases o) (S.setV r)
  | i :: is, _, _, B', B, env, σ, hl, kb, .n k1 hb rv hn hr, S => by
    exact set_all (is := is) (by simpa using hl) (kb.trans k1) (hr.move fun a e _ => hb a e) (S.setN (rv.weak kb) hn)
theorem setS_keep : ∀ {is : List Nat} {vs : List V} {σ : L2.St}, (∀ i ∈ is, i ∉ io) → Keep io σ (setS is vs σ)
  | [], vs, σ, _ => by cases vs <;> exact Keep.refl io σ
  | i :: is, [], σ, _ => Keep.refl io σ
  | i :: is, v :: vs, σ, h => by
    refine Keep.trans (b := σ.set i (some v)) (fun j hj => List.getElem?_set_ne (fun z => h i List.mem_cons_self (by rw [z]; exact hj))) (setS_keep fun j hj => h j (List.mem_cons_of_mem _ hj))
/-- behind the values: the stores -/
theorem par_reads {is : List Nat} {cs : List CE} (hio : ∀ i ∈ is, i ∉ io) {D : Ends} {σ : L2.St} {H : Hp} (q : TSx X.K T W cl io (evS C (.par is cs)) D σ H) :
    THx T cl X.K W (evHolds C cs) σ H fun vs H1 => vs.length = is.length ∧ D.nx (setS is vs σ) H1 ∧ ∀ p, H1 p = none → D.nx (setS is vs σ) (upd H1 p (.tup vs)) := by
  obtain ⟨B, G, env, S, q⟩ := q
  have q : FinS X.K T W cl io B G σ ((evHolds C cs env).bind fun ss env => if is.length = ss.length then .ok .next (setAll is ss env) else .bad) (fun fl env' σ' G' H' => EndsAt X.K B D fl env' σ' G' H') := q
  refine ⟨B, G, env, S, q.bind.mono fun ss e G1 H1 g S1 h vs hr => ?_⟩
  split at h
  · rename_i hl
    refine ⟨by rw [hr.length, hl], h.at (setS_keep hio) (GX.refl B G1) (set_all hl (Same.refl B) hr S1), fun p hp => ?_⟩
    have gf := gf_new (o := .tup vs) S1.gh hp
    exact h.at (setS_keep hio) (GX.refl B G1) (set_all hl (Same.refl B) (hr.laid S1 gf) (S1.laid gf))
  · exact h.elim
theorem TAmono {t : TA} {σ : L2.St} {H : Hp} {Q Q' : List V → Hp → Prop} (h : THx T cl X.K W (evHolds C []) σ H Q) : True := trivial
theorem THx.mono {ev : Env → Out (List Sl)} {σ : L2.St} {H : Hp} {Q Q' : List V → Hp → Prop} (h : THx T cl K W ev σ H Q) (m : ∀ vs H, Q vs H → Q' vs H) : THx T cl K W ev σ H Q' := by
  obtain ⟨B, G, env, S, h⟩ := h
  exact ⟨B, G, env, S, h.mono fun ss e G' H' _ _ k vs hr => m vs H' (k vs hr)⟩
/-- plain names, from the left -/
theorem names_pgs (st : StOk X cx) : ∀ {ts : List Expr} {is : List Nat}, compL (nameIx cx) ts = some is → PGs X ts (fun vs σ H Q => vs.length = is.length ∧ Q (setS is vs σ) H) ∧ (assignEach ts X.env).length = is.length ∧ (assignEach ts X.env).findIdx? (·.1) = none
  | [], is, h => by
    cases h
    refine ⟨pgs_nil.imp fun vs σ H Q q => ?_, rfl, rfl⟩
    cases vs with
    | nil => exact ⟨rfl, q.2⟩
    | cons _ _ => simp at q
  | e :: ts, is, h => by
    obtain ⟨c, cr, a1, a2, rfl⟩ := compL_cons h
    obtain ⟨b1, b2, b3⟩ := names_pgs st a2
    cases e <;> first | cases a1 | skip
    rename_i x pos
    obtain ⟨h1, h2, h3⟩ := own_ok st (show cx.own x = some c from a1)
    refine ⟨(pgs_cons (pg_name (pos := pos) st.nd h1 h2 h3) b1 rfl).imp fun vs σ H Q q => ?_, ?_, ?_⟩
    · cases vs with
      | nil => simp at q
      | cons v vs =>
        obtain ⟨hl, q⟩ := q
        exact ⟨v, vs, rfl, by simpa using hl, q⟩
    · show (assignEach ts X.env).length + 1 = _
      rw [b2, List.length_cons]
    · show ((false, assign (Expr.Name x pos) X.env) :: assignEach ts X.env).findIdx? (·.1) = none
      rw [List.findIdx?_cons, b3]; rfl
end
end Core
end

section
set_option Elab.async false
set_option linter.all false
set_option maxRecDepth 100000
set_option autoImplicit false
set_option maxHeartbeats 400000
/-! Soundness 10e: every statement. -/
namespace Core
open PySem PySem.Spec PyProof.Rows L2
/-- the names that may be stored from the right -/
def swName (sc : Scope) (l : Nat) : Expr → Option Str
  | .Name id pos => if sc.names.lookup id == some .local && pos.line == l then some id else none
  | _ => none
theorem swN_form (sc : Scope) (ts vs : List Expr) : swN sc ts vs = (if (!(ts.length == 2 || ts.length == 3) || vs.length != ts.length) = true then some none else if vs.any isStarE = true then some none
  else if ((ts.filterMap (swName sc ((ts.head?.map (·.pos.line)).getD 0))).length != ts.length || (ts.filterMap (swName sc ((ts.head?.map (·.pos.line)).getD 0))).eraseDups.length != (ts.filterMap (swName sc ((ts.head?.map (·.pos.line)).getD 0))).length) = true then some none
  else if vs.all (foldedForSure 8) = true then some none else if vs.all (constantsAlone 8) = true then none else some (some (ts.filterMap (swName sc ((ts.head?.map (·.pos.line)).getD 0))))) := by
  have key : ∃ g : Expr → Option Str, (∀ e, g e = swName sc ((ts.head?.map (·.pos.line)).getD 0) e) ∧ swN sc ts vs = (if (!(ts.length == 2 || ts.length == 3) || vs.length != ts.length) = true then some none else if vs.any isStarE = true then some none
    else if ((ts.filterMap g).length != ts.length || (ts.filterMap g).eraseDups.length != (ts.filterMap g).length) = true then some none
    else if vs.all (foldedForSure 8) = true then some none else if vs.all (constantsAlone 8) = true then none else some (some (ts.filterMap g))) := ⟨_, fun e => by cases e <;> rfl, rfl⟩
  obtain ⟨g, hg, h⟩ := key
  have e : g = swName sc ((ts.head?.map (·.pos.line)).getD 0) := funext hg
  rw [h, e]
theorem sw_eq {env : PySem.Env} {ts vs : List Expr} {k1 k2 : Nat} {p p2 : Pos} {r : Option (List Str)} (hk : env.blockKind = .function) (h : swN env.scope ts vs = some r) : swappedStores [.Tuple ts k1 p] (.Tuple vs k2 p2) env = pure r := by
  have key : ∃ (f : Expr → Bool) (g : Expr → Option Str), (∀ e, f e = isStarE e) ∧ (∀ e, g e = swName env.scope ((ts.head?.map (·.pos.line)).getD 0) e) ∧
      swappedStores [.Tuple ts k1 p] (.Tuple vs k2 p2) env = (if (!(ts.length == 2 || ts.length == 3) || vs.length != ts.length || env.blockKind != .function) = true then (pure none : Sem (Option (List Str))) else if vs.any f = true then pure none
        else if ((ts.filterMap g).length != ts.length || (ts.filterMap g).eraseDups.length != (ts.filterMap g).length) = true then pure none
        else if vs.all (foldedForSure 8) = true then pure none
        else if vs.all (constantsAlone 8) = true then (do unsupported "assign.tuple-of-constant-expressions:order-of-the-stores"; pure (some (ts.filterMap g)))
        else pure (some (ts.filterMap g))) := ⟨_, _, fun e => by cases e <;> rfl, fun e => by cases e <;> rfl, rfl⟩
  obtain ⟨f, g, hf, hg, e⟩ := key
  have ef : f = isStarE := funext hf
  have eg : g = swName env.scope ((ts.head?.map (·.pos.line)).getD 0) := funext hg
  rw [swN_form] at h
  have hk2 : (env.blockKind != .function) = false := by rw [hk]; decide
  rw [e, ef, eg, hk2, Bool.or_false]
  split at h
  · rename_i hc; cases h; rw [if_pos hc]
  · rename_i hc
    rw [if_neg hc]
    split at h
    · rename_i hs; cases h; rw [if_pos hs]
    · rename_i hs
      rw [if_neg hs]
      split at h
      · rename_i hn; cases h; rw [if_pos hn]
      · rename_i hn
        rw [if_neg hn]
        split at h
        · rename_i ha; cases h; rw [if_pos ha]
        · rename_i ha
          rw [if_neg ha]
          split at h
          · cases h
          · rename_i hb
            cases h
            rw [if_neg hb]
section
variable {C : Ctx} {T : List (Addr × Str)} {cl : Nat → Value} {k : Nat} {X : L2.Cx} {W : WX} {cx : CCx} {io : List Nat}
theorem loc_of {x : Str} (st : StOk X cx) (h : locB cx x = true) : X.env.scope.names.lookup x = some .local := by
  unfold locB at h
  rw [st.sc]
  exact eq_of_beq h
theorem s_parT {ts vs : List Expr} {k1 k2 : Nat} {p p2 pos : Pos} {is : List Nat} {cs : List CE} (st : StOk X cx) (hw : swappedStores [.Tuple ts k1 p] (.Tuple vs k2 p2) X.env = pure none) (h1 : compL (nameIx cx) ts = some is) (hl : is.length ≤ 1000) (hio : ∀ i ∈ is, i ∉ io) (h2 : SndL C T cl X W vs cs) :
    PS X (.Assign [.Tuple ts k1 p] (.Tuple vs k2 p2) pos) (TSx X.K T W cl io (evS C (.par is cs))) := by
  obtain ⟨b1, b2, b3⟩ := names_pgs (X := X) st h1
  refine (ps_asg (pe_tup (pa_hs h2)) (pg_tup (n := is.length) st.calm b1 b2 b3) (no_swap_sole (fun _ _ z => by cases z) _ _) hw rfl).imp fun D σ H q => ?_
  have q1 := par_reads hio q
  obtain ⟨B, G, env, S, q1⟩ := q1
  refine ⟨B, G, env, S, q1.okk fun ss e G1 H1 e1 g S1 kk vs hr => ?_⟩
  obtain ⟨z1, z2, z3⟩ := kk vs hr
  have hz : vs.length ≤ sizeLine := by
    rw [z1]
    exact Nat.le_trans hl (by decide)
  exact ⟨hz, fun p hp => ⟨p, vs, rfl, SqT.of upd_same, z1, z1, z3 p hp⟩⟩
theorem par2 {ta : TA} : True := trivial
theorem io_of {is : List Nat} (h : is.all (fun i => !cx.io.contains i) = true) : ∀ i ∈ is, i ∉ cx.io := fun i hi => by
  rw [List.all_eq_true] at h
  simpa using h i hi
theorem s_tup {n m : Nat} {ts : List Expr} {k1 : Nat} {p pos : Pos} {e : Expr} {c : CS} (o : SOK C T cl k X W cx) (h : cTupS cx (compE n cx) (compT m cx (.Tuple ts k1 p)) ts e = some c) : PS X (.Assign [.Tuple ts k1 p] e pos) (TSx X.K T W cl cx.io (evS C c)) := by
  have ih := fun e c h => snd_all (C := C) (T := T) (cl := cl) (k := k) n X W cx o.x e c h
  have unp : ∀ {c : CS}, swappedStores [.Tuple ts k1 p] e X.env = pure none → cUnp (compE n cx) (compT m cx (.Tuple ts k1 p)) e = some c → PS X (.Assign [.Tuple ts k1 p] e pos) (TSx X.K T W cl cx.io (evS C c)) := fun {c} hw h => by
    unfold cUnp at h
    split at h
    · rename_i h1 h2
      cases h
      exact s_unp o.x hw h1 h2
    · cases h
  unfold cTupS at h
  split at h
  · rename_i vs hv
    cases e <;> first | cases hv | skip
    rename_i k2 p2
    split at h
    · -- stored from the right
      rename_i ns hs
      rw [← o.x.st.sc] at hs
      have hw := sw_eq (k1 := k1) (k2 := k2) (p := p) (p2 := p2) o.kind hs
      unfold cPar at h
      split at h
      · rename_i x px y py a b
        split at h
        · rename_i i j c1 c2 h1 h2 h3 h4
          split at h
          · rename_i hb
            cases h
            simp only [Bool.and_eq_true, Bool.not_eq_true'] at hb
            obtain ⟨⟨⟨⟨⟨b1, b2⟩, b3⟩, b4⟩, b5⟩, b6⟩ := hb
            have en : ns = [x, y] := eq_of_beq b1
            rw [en] at hw
            have hij : i ≠ j := fun z => by rw [z] at b4; simp [nodupB] at b4
            have hio : ∀ l ∈ [i, j], l ∉ cx.io := io_of (by simp only [List.all_cons, List.all_nil, b5, b6]; rfl)
            obtain ⟨i1, _, _⟩ := own_ok o.x.st h1
            obtain ⟨j1, _, _⟩ := own_ok o.x.st h2
            refine (ps_par o.x.st.calm o.x.st.nd i1 j1 hij (loc_of o.x.st b2) (loc_of o.x.st b3) (pa_hs (.cons (ih _ _ h3) (.cons (ih _ _ h4) .nil))) hw rfl).imp fun D σ H q => (par_reads hio q).mono fun vs H q => ?_
            obtain ⟨hl, q, _⟩ := q
            cases vs with
            | nil => simp at hl
            | cons v vs => cases vs with
              | nil => simp at hl
              | cons w vs => cases vs with
                | nil => exact ⟨v, w, rfl, q⟩
                | cons _ _ => simp at hl
          · cases h
        · cases h
      · rename_i x px y py z pz a b c'
        split at h
        · rename_i i j l c1 c2 c3 h1 h2 h3 h4 h5 h6
          split at h
          · rename_i hb
            cases h
            simp only [Bool.and_eq_true, Bool.not_eq_true'] at hb
            obtain ⟨⟨⟨⟨⟨⟨⟨b1, b2⟩, b3⟩, b4⟩, b5⟩, b6⟩, b7⟩, b8⟩ := hb
            have en : ns = [x, y, z] := eq_of_beq b1
            rw [en] at hw
            have hij : i ≠ j := fun z => by rw [z] at b5; simp [nodupB] at b5
            have hil : i ≠ l := fun z => by rw [z] at b5; simp [nodupB] at b5
            have hjl : j ≠ l := fun z => by rw [z] at b5; simp [nodupB] at b5
            have hio : ∀ l' ∈ [i, j, l], l' ∉ cx.io := io_of (by simp only [List.all_cons, List.all_nil, b6, b7, b8]; rfl)
            obtain ⟨i1, _, _⟩ := own_ok o.x.st h1
            obtain ⟨j1, _, _⟩ := own_ok o.x.st h2
            obtain ⟨l1, _, _⟩ := own_ok o.x.st h3
            refine (ps_par3 o.x.st.calm o.x.st.nd i1 j1 l1 hij hil hjl (loc_of o.x.st b2) (loc_of o.x.st b3) (loc_of o.x.st b4) (pa_hs (.cons (ih _ _ h4) (.cons (ih _ _ h5) (.cons (ih _ _ h6) .nil)))) hw rfl).imp fun D σ H q => (par_reads hio q).mono fun vs H q => ?_
            obtain ⟨hl, q, _⟩ := q
            cases vs with
            | nil => simp at hl
            | cons v vs => cases vs with
              | nil => simp at hl
              | cons w vs => cases vs with
                | nil => simp at hl
                | cons u vs => cases vs with
                  | nil => exact ⟨v, w, u, rfl, q⟩
                  | cons _ _ => simp at hl
          · cases h
        · cases h
      · cases h
    · rename_i hs
      rw [← o.x.st.sc] at hs
      have hw := sw_eq (k1 := k1) (k2 := k2) (p := p) (p2 := p2) o.kind hs
      split at h
      · rename_i c' hp
        cases h
        unfold cParT at hp
        split at hp
        · rename_i is cs h1 h2
          split at hp
          · rename_i hb
            cases hp
            simp only [Bool.and_eq_true, decide_eq_true_eq] at hb
            obtain ⟨⟨⟨b1, b2⟩, b3⟩, b4⟩ := hb
            exact s_parT o.x.st hw h1 (by rw [eq_of_beq b1]; exact b2) (io_of b4) (compL_snd ih h2)
          · cases hp
        · cases hp
      · exact unp hw h
    · cases h
  · rename_i hv
    exact unp (sw_none hv X.env) h
/-- every statement -/
theorem ss_all : ∀ (n : Nat), (∀ s c, compS n cx s = some c → SOK C T cl k X W cx → PS X s (TSx X.K T W cl cx.io (evS C c))) ∧ (∀ ss cs, compSs n cx ss = some cs → SOK C T cl k X W cx → PSs X ss (TSx X.K T W cl cx.io (evSs C cs)))
  | 0 => ⟨fun s c h => (by cases h), fun ss cs h => (by cases h)⟩
  | n + 1 => by
    obtain ⟨ihS, ihL⟩ := ss_all n
    refine ⟨fun s c h o => ?_, fun ss cs h o => ?_⟩
    · have ihe := fun e c h => snd_all (C := C) (T := T) (cl := cl) (k := k) n X W cx o.x e c h
      unfold compS at h
      split at h
      · split at h
        · rename_i i ce h1 h2
          split at h
          · cases h
          · rename_i hio
            cases h
            exact s_asg o.x h2 h1 (by simpa using hio)
        · cases h
      · exact s_tup o h
      · split at h
        · split at h
          · rename_i i kx ce h1 h2 h3
            cases h
            exact s_sto o.x.units (slot_of o.x.st h1) (ihe _ _ h2) (ihe _ _ h3)
          · cases h
        · cases h
      · split at h
        · rename_i hm
          rw [Bool.and_eq_true] at hm
          split at h
          · rename_i i ce h1 h2
            cases h
            rw [beq_eq hm.1]
            exact s_apd hm.2 (slot_of o.x.st h1) (ihe _ _ h2)
          · cases h
        · cases h
      · split at h
        · obtain ⟨ce, h1, rfl⟩ := Option.map_eq_some_iff.mp h
          exact s_expr (ihe _ _ h1)
        · cases h
      · split at h
        · rename_i cc ca cb h1 h2 h3
          cases h
          exact s_if (ihe _ _ h1) (ihL _ _ h2 o) (ihL _ _ h3 o)
        · cases h
      · split at h
        · rename_i cc cb h1 h2
          cases h
          exact s_while o.pass (ihe _ _ h1) (ihL _ _ h2 o)
        · cases h
      · split at h
        · rename_i t it cb h1 h2 h3
          cases h
          exact s_for o.pass o.x.st (c_it o.x ihe h2) h1 (ihL _ _ h3 o)
        · cases h
      · cases h; exact s_break
      · cases h; exact s_cont
      · cases h; exact s_pass
      · obtain ⟨ce, h1, rfl⟩ := Option.map_eq_some_iff.mp h
        exact s_ret (ihe _ _ h1)
      · cases h; exact s_retN
      · split at h
        · rename_i hg
          obtain ⟨ci, h1, rfl⟩ := Option.map_eq_some_iff.mp h
          exact s_raise o hg h1
        · cases h
      · cases h
    · unfold compSs at h
      split at h
      · cases h; exact ss_nil
      · split at h
        · rename_i c cs h1 h2
          cases h
          exact ss_cons (ihS _ _ h1 o) (ihL _ _ h2 o)
        · cases h
end
end Core
end

section
set_option Elab.async false
set_option linter.all false
set_option maxRecDepth 100000
set_option autoImplicit false
set_option maxHeartbeats 400000
/-! Soundness 11: defs; the program. -/
namespace Core
open PySem PySem.Spec PyProof.Rows L2
section
variable {K : PySem.W.Frag} {T : List (Addr × Str)} {cl : Nat → Value} {B G H : Hp} {σ : L2.St} {env : Env}
theorem outPs_get : ∀ (io : List Nat) (n j : Nat) (env : Env) (i : Nat), i < n → (outPs io n j env)[i]? = some (if io.contains (j + i) then env.getD (j + i) .no else .no)
  | io, 0, j, env, i, h => by omega
  | io, n + 1, j, env, 0, h => by
    show some (if io.contains j then env.getD j .no else .no) = _
    rw [Nat.add_zero]
  | io, n + 1, j, env, i + 1, h => by
    show (outPs io n (j + 1) env)[i]? = _
    rw [outPs_get io n (j + 1) env i (by omega)]
    have : j + 1 + i = j + (i + 1) := by omega
    rw [this]
theorem outPs_len : ∀ (io : List Nat) (n j : Nat) (env : Env), (outPs io n j env).length = n
  | io, 0, j, env => rfl
  | io, n + 1, j, env => by
    show (outPs io n (j + 1) env).length + 1 = _
    rw [outPs_len]
/-- a parameter's slot behind the body -/
theorem outPs_slot {io : List Nat} {n i : Nat} {s : Sl} (h : (outPs io n 0 env)[i]? = some s) : i < n ∧ (s = .no ∨ (i ∈ io ∧ env[i]? = some s)) := by
  have hi : i < n := by
    have := (List.getElem?_eq_some_iff.mp h).1
    rwa [outPs_len] at this
  refine ⟨hi, ?_⟩
  rw [outPs_get io n 0 env i hi, Nat.zero_add] at h
  split at h
  · rename_i hc
    rw [List.getD_eq_getElem?_getD] at h
    cases e : env[i]? with
    | none => rw [e] at h; exact .inl (Option.some.inj h).symm
    | some s' =>
      rw [e] at h
      have h : some s' = some s := h
      exact .inr ⟨by simpa using hc, h⟩
  · exact .inl (Option.some.inj h).symm
/-- the caller's view of the parameters -/
theorem R.params {io N : List Nat} {n : Nat} {vs : List V} {st : L2.St} (S : R K T B G env σ H) (hn : vs.length = n) (hs : ∀ i, i < n → st[i]? = (vs.map some)[i]?) (kp : Keep io st σ) :
    R K T B G (outPs io n 0 env) (vs.map some) H ∧ ∀ i a, ownAt (outPs io n 0 env) (vs.map some) i a → i < n ∧ ownAt env σ i a := by
  have val : ∀ {i : Nat}, i < n → i ∈ io → σ[i]? = (vs.map some)[i]? := fun {i} h1 h2 => (kp i h2).trans (hs i h1)
  have own : ∀ {i : Nat} {a : Addr}, ownAt (outPs io n 0 env) (vs.map some) i a → i < n ∧ ownAt env σ i a := fun {i a} ⟨⟨s, e, k⟩, z⟩ => by
    obtain ⟨h1, h2⟩ := outPs_slot e
    rcases h2 with rfl | ⟨h2, h3⟩
    · cases k
    · exact ⟨h1, ⟨s, h3, k⟩, (val h1 h2).trans z⟩
  refine ⟨⟨S.tab, by rw [outPs_len, List.length_map, hn], S.gh, S.bh, fun i s e => ?_, fun i j a o1 o2 => S.apart i j a (own o1).2 (own o2).2⟩, fun i a o => own o⟩
  obtain ⟨h1, h2⟩ := outPs_slot e
  rcases h2 with rfl | ⟨h2, h3⟩
  · trivial
  · have z := S.slot i s h3
    have q := val h1 h2
    cases s with
    | no => trivial
    | v d => obtain ⟨w, q1, q2⟩ := z; exact ⟨w, q.symm.trans q1, q2⟩
    | o xs => obtain ⟨zl, a, ws, q1, q2⟩ := z; exact ⟨zl, a, ws, q.symm.trans q1, q2⟩
    | q xs => obtain ⟨a, ws, q1, q2⟩ := z; exact ⟨a, ws, q.symm.trans q1, q2⟩
theorem start_get {N : List Str} {vs : List V} {i : Nat} (h : i < vs.length) : (L2.start N vs)[i]? = (vs.map some)[i]? := by
  unfold L2.start
  rw [List.getElem?_append_left (by rw [List.length_map]; exact h)]
theorem start_len {N : List Str} {vs : List V} (h : vs.length ≤ N.length) : (L2.start N vs).length = N.length := by
  unfold L2.start
  rw [List.length_append, List.length_map, List.length_replicate]
  omega
/-- a def's first state -/
theorem R.entry {cf : CF} {N : List Str} {vs : List V} {ss : List Sl} (S : R K T B G ss (vs.map some) H) (h1 : vs.length = cf.np) (h2 : cf.slots = N.length) (h3 : cf.np ≤ N.length) : R K T B G (Core.entry cf ss) (L2.start N vs) H := by
  have hl : ss.length = cf.np := by rw [S.len, List.length_map, h1]
  have get : ∀ {i : Nat} {s : Sl}, (Core.entry cf ss)[i]? = some s → s = .no ∨ (ss[i]? = some s ∧ (L2.start N vs)[i]? = (vs.map some)[i]?) := fun {i s} e => by
    unfold Core.entry at e
    by_cases hi : i < ss.length
    · rw [List.getElem?_append_left hi] at e
      exact .inr ⟨e, start_get (by omega)⟩
    · rw [List.getElem?_append_right (by omega), List.getElem?_replicate] at e
      split at e
      · exact .inl (Option.some.inj e).symm
      · cases e
  have own : ∀ {i : Nat} {a : Addr}, ownAt (Core.entry cf ss) (L2.start N vs) i a → ownAt ss (vs.map some) i a := fun {i a} ⟨⟨s, e, k⟩, z⟩ => by
    rcases get e with rfl | ⟨e1, e2⟩
    · cases k
    · exact ⟨⟨s, e1, k⟩, e2.symm.trans z⟩
  refine ⟨S.tab, ?_, S.gh, S.bh, fun i s e => ?_, fun i j a o1 o2 => S.apart i j a (own o1) (own o2)⟩
  · unfold Core.entry
    rw [List.length_append, List.length_replicate, start_len (by omega)]
    omega
  · rcases get e with rfl | ⟨e1, e2⟩
    · trivial
    · have z := S.slot i s e1
      cases s with
      | no => trivial
      | v d => obtain ⟨w, q1, q2⟩ := z; exact ⟨w, e2.trans q1, q2⟩
      | o xs => obtain ⟨zl, a, ws, q1, q2⟩ := z; exact ⟨zl, a, ws, e2.trans q1, q2⟩
      | q xs => obtain ⟨a, ws, q1, q2⟩ := z; exact ⟨a, ws, e2.trans q1, q2⟩
/-- a value as it leaves: new lists stay apart from the parameters' -/
theorem RVR.leaves {io : List Nat} {n : Nat} {vs : List V} {v : V} {d : D} (h : RVR K B G env σ H v (.n d)) (own : ∀ i a, ownAt (outPs io n 0 env) (vs.map some) i a → i < n ∧ ownAt env σ i a) : RVR K B G (outPs io n 0 env) (vs.map some) H v (.n d) := by
  cases d with
  | list xs => obtain ⟨z, a, ws, e1, e2, e3, e4, e5, e6⟩ := h; exact ⟨z, a, ws, e1, e2, e3, e4, e5, fun i o => e6 i (own i a o).2⟩
  | dict xs => obtain ⟨a, ws, e1, e2, e3, e4, e5, e6⟩ := h; exact ⟨a, ws, e1, e2, e3, e4, e5, fun i o => e6 i (own i a o).2⟩
  | none => exact h.elim
  | bool _ => exact h.elim
  | int _ => exact h.elim
  | str _ => exact h.elim
  | tuple _ => exact h.elim
/-- what the body's end gives the caller -/
theorem body_reads {X : L2.Cx} {cf : CF} {N : List Str} {vs : List V} {ss : List Sl} {Q : VK} {E : XK} {o : Out Fl} {W : WX} (hW : ∀ c d σ H, E c d H → W c d σ H) (S0 : R K T B G ss (vs.map some) H) (h1 : vs.length = cf.np) (h2 : cf.slots = N.length) (h3 : cf.np ≤ N.length)
    (h : match finish cf o with
      | .ok d new ps => ∀ G' H', GX B G G' → R K T B G' ps (vs.map some) H' → ∀ v, RVR K B G' ps (vs.map some) H' v (if new then .n d else .f d) → Q v H'
      | .ex x ps => ∀ G' H', GX B G G' → R K T B G' ps (vs.map some) H' → E (cl x.cls) none H'
      | .bad => False) : FinS K T W cl cf.io B G (L2.start N vs) o fun fl env' σ' G' H' => EndsAt K B { nx := fun _ H' => Q .non H', rt := Q } fl env' σ' G' H' := by
  have par : ∀ {env' : Env} {σ' : L2.St} {G' H' : Hp}, Keep cf.io (L2.start N vs) σ' → R K T B G' env' σ' H' → R K T B G' (outPs cf.io cf.np 0 env') (vs.map some) H' ∧ ∀ i a, ownAt (outPs cf.io cf.np 0 env') (vs.map some) i a → i < cf.np ∧ ownAt env' σ' i a := fun {env' σ' G' H'} kp S =>
    S.params (N := []) h1 (fun i hi => start_get (by omega)) kp
  cases o with
  | bad => exact h
  | ex x env' => exact fun σ' G' H' kp g S => hW _ _ _ _ (h G' H' g (par kp S).1)
  | ok fl env' =>
    intro σ' G' H' kp g S
    obtain ⟨p1, p2⟩ := par kp S
    cases fl with
    | brk => exact h.elim
    | cnt => exact h.elim
    | next => exact h G' H' g p1 .non .non
    | ret r =>
      intro v rv
      cases r with
      | f d => exact h G' H' g p1 v rv
      | n d => exact h G' H' g p1 v (rv.leaves p2)
      | b i =>
        have h : (match (if i < cf.np then (match frz (.b i) env' with
            | .ok d env => FO.ok d false (outPs cf.io cf.np 0 env)
            | _ => .bad)
          else match env'[i]? with
            | some (.v d) => .ok d false (outPs cf.io cf.np 0 env')
            | some (.o xs) => .ok (.list xs) true (outPs cf.io cf.np 0 env')
            | some (.q kvs) => .ok (.dict kvs) true (outPs cf.io cf.np 0 env')
            | _ => .bad) with
          | .ok d new ps => ∀ G' H', GX B G G' → R K T B G' ps (vs.map some) H' → ∀ v, RVR K B G' ps (vs.map some) H' v (if new then .n d else .f d) → Q v H'
          | .ex x ps => ∀ G' H', GX B G G' → R K T B G' ps (vs.map some) H' → E (cl x.cls) none H'
          | .bad => False) := h
        have hv : σ'[i]? = some (some v) := rv
        by_cases hi : i < cf.np
        · rw [if_pos hi] at h
          cases e : frz (.b i) env' with
          | bad => rw [e] at h; exact h.elim
          | ex y e2 => exact absurd e frz_ex
          | ok d e2 =>
            rw [e] at h
            obtain ⟨G2, g2, S2, rp⟩ := RVR.frozen S rv e
            exact h G2 H' (g.trans g2) (par kp S2).1 v rp
        · rw [if_neg hi] at h
          cases e : env'[i]? with
          | none => rw [e] at h; exact h.elim
          | some s =>
            rw [e] at h
            have z := S.slot i s e
            have out : ∀ {a : Addr}, ownAt env' σ' i a → ∀ j, ¬ ownAt (outPs cf.io cf.np 0 env') (vs.map some) j a := fun {a} o j o2 => by
              obtain ⟨q1, q2⟩ := p2 j a o2
              have := S.apart i j a o q2
              omega
            cases s with
            | no => exact h.elim
            | v d => obtain ⟨w, q1, q2⟩ := z; rw [hv] at q1; cases q1; exact h G' H' g p1 v q2
            | o xs =>
              obtain ⟨zl, a, ws, q1, q2, q3, q4, q5⟩ := z
              rw [hv] at q1; cases q1
              exact h G' H' g p1 _ ⟨zl, a, ws, rfl, q2, q3, q4, q5, out ⟨⟨_, e, rfl⟩, hv⟩⟩
            | q xs =>
              obtain ⟨a, ws, q1, q2, q3, q4, q5⟩ := z
              rw [hv] at q1; cases q1
              exact h G' H' g p1 _ ⟨a, ws, rfl, q2, q3, q4, q5, out ⟨⟨_, e, rfl⟩, hv⟩⟩
end
/-- a def of the text, and what the table tells of it -/
structure DefOk (K : PySem.W.Frag) (mg : Str → Option Value) (base : Heap) (T : List (Addr × Str)) (tab : Tab) (P : Prog) (i : Nat) (fa : Addr) (fd : FuncData) (ps : List Str) : Prop where
  ex : ∃ (qual : Str) (params : Arguments) (body : List Stmt) (scope : Scope) (dV kV doc pm cdv ct oc : Value) (an od : Option Addr) (osl : Array (Option Value)) (name : Str) (fe : FnE) (cf : CF),
    fd = PySem.W.fnOf name qual params body scope dV kV doc pm an cdv ct ∧ tab.fns[i]? = some fe ∧ P.fns[i]? = some cf ∧ K.lookup fa = some ⟨oc, od, .func (PySem.W.fnOf name qual params body scope dV kV doc pm an cdv ct), osl⟩ ∧ PySem.W.codeIn K cdv qual = true ∧ FnScope fe.N ps scope ∧
    compSs 60 (tab.cx fe.N scope fe.io fe.lam) body = some cf.body ∧ cf.np = ps.length ∧ cf.slots = fe.N.length ∧ cf.io = fe.io ∧ ps.length ≤ fe.N.length ∧ fe.N.Nodup ∧ scope.kind = .function ∧
    (fe.lam = true → ∃ c Pt, cdv = .ref c ∧ LamX.TabB base mg c Pt ∧ (Pt, qual ++ ".<locals>." ++ "<lambda>") ∈ T ∧ ∀ p ∈ T, p.1 = Pt → p.2 = qual ++ ".<locals>." ++ "<lambda>")
  keep : PySem.W.keepIn K (.ref fa) = true
  binds : Binds K fd ps []
/-- the whole text -/
structure ProgOk (Pm : Program) (w : World) (K : PySem.W.Frag) (mg : Str → Option Value) (base : Heap) (T : List (Addr × Str)) (cl : Nat → Value) (tab : Tab) (P : Prog) : Prop where
  blt : ∀ x ∈ bltNames, (namesFrom 0 tab.fns).lookup x = none → tab.cons.lookup x = none → tab.clss.lookup x = none → mg x = none
  con : ∀ x d, tab.cons.lookup x = some d → ∃ v u, mg x = some u ∧ RelV v u ∧ ∀ G, Rp K G v d
  defs : ∀ x f, (namesFrom 0 tab.fns).lookup x = some f → tab.gds.contains x = false → ∃ fa fd ps, mg x = some (.ref fa) ∧ DefOk K mg base T tab P f fa fd ps
  grd : ∀ x f, (namesFrom 0 tab.fns).lookup x = some f → tab.gds.contains x = true → ∀ X' : L2.Cx, X'.prog = Pm → X'.w = w → X'.K = K → X'.mg = mg → X'.base = base → GdFact X' x P.sub cl (P.guard f)
  cls : ∀ x c, tab.clss.lookup x = some c → ∃ (Ca : Addr) (Bs newId initId : String) (bmB : List Value), mg x = some (.ref Ca) ∧ cl c = .ref Ca ∧ ExcBaseFacts Bs newId initId bmB ∧ PySem.W.excIn K Ca bmB newId = true ∧ PySem.W.keepIn K (.ref Ca) = true ∧ PySem.W.subIn K (.ref Ca) (.type "BaseException") = some true ∧ PySem.W.typeIn K (.ref Ca) = some (.type "type")
section
variable {Pm : Program} {w : World} {K : PySem.W.Frag} {mg : Str → Option Value} {base : Heap} {T : List (Addr × Str)} {cl : Nat → Value} {tab : Tab} {P : Prog}
/-- every def keeps its promise, at every level -/
theorem defs_ok (O : ProgOk Pm w K mg base T cl tab P) : ∀ (L f : Nat) (fa : Addr) (fd : FuncData) (ps : List Str), DefOk K mg base T tab P f fa fd ps → FnOk Pm w K mg base (L2.CX Pm w) (3 * L) fa fd ps (spF K T cl (P.ctx (callK P L)) f)
  | 0, f, fa, fd, ps, d => by
    refine ⟨fun vs H Q E h => ?_, fun A outer s H args us vs Q E hr e0 hb hv h => ?_⟩
    · obtain ⟨B, G, ss, _, z⟩ := h; exact z.elim
    · obtain ⟨B, G, ss, _, z⟩ := h; exact z.elim
  | L + 1, f, fa, fd, ps, d => by
    obtain ⟨qual, params, body, scope, dV, kV, doc, pm, cdv, ct, oc, an, od, osl, name, fe, cf, rfl, h2, h3, h4, h5, h6, h7, h8, h9, h10, h11, h12, h13, h14⟩ := d.ex
    have call : ∀ ss, (P.ctx (callK P (L + 1))).callf f ss = if ss.length = cf.np then finish cf (evSs (P.ctx (callK P L)) cf.body (Core.entry cf ss)) else .bad := fun ss => by
      show callK P (L + 1) f ss = _
      unfold callK
      rw [h3]
    have ln : ∀ vs H Q E, spF K T cl (P.ctx (callK P (L + 1))) f vs H Q E → vs.length = ps.length := fun vs H Q E h => by
      obtain ⟨B, G, ss, S, z⟩ := h
      rw [call] at z
      by_cases e : ss.length = cf.np
      · rw [← h8, ← e, S.len, List.length_map]
      · rw [if_neg e] at z; exact z.elim
    have e3 : 3 * (L + 1) = (3 * L + 2) + 1 := by omega
    rw [e3]
    refine fn_of h4 h5 h6 ln fun A outer s H vs Q E hr h => ?_
    have hv := ln vs H Q E h
    obtain ⟨B, G, ss, S, z⟩ := h
    rw [call] at z
    have e : ss.length = cf.np := by rw [S.len, List.length_map, hv, h8]
    rw [if_pos e] at z
    have xo : XOK (P.ctx (callK P L)) T cl (3 * L) (cxOf (L2.CX Pm w) Pm w K mg base fe.N qual scope fa cdv A outer s H E) (fun c d _ H => E c d H) (tab.cx fe.N scope fe.io fe.lam) := by
      refine ⟨⟨rfl, h12, rfl, rfl, fun _ _ => rfl⟩, takes_of rfl rfl rfl rfl, hr.mono (by omega), O.blt, O.con, fun x g hx hg => ?_, O.grd, fun hl => ⟨hr, ?_⟩⟩
      · obtain ⟨ga, gd, gps, m1, m2⟩ := O.defs x g hx hg
        exact ⟨ga, gd, gps, m1, m2.keep, m2.binds, defs_ok O L g ga gd gps m2⟩
      · obtain ⟨c, Pt, q1, q2, q3, q4⟩ := h14 hl
        exact ⟨c, Pt, q1, q2, q3, q4⟩
    have so : SOK (P.ctx (callK P L)) T cl (3 * L) (cxOf (L2.CX Pm w) Pm w K mg base fe.N qual scope fa cdv A outer s H E) (fun c d _ H => E c d H) (tab.cx fe.N scope fe.io fe.lam) := by
      refine ⟨xo, passes_of rfl, ?_, fun x c hc => ?_⟩
      · show (if scope.kind.isAnnotationScope then ScopeKind.function else scope.kind) = .function
        rw [h13]; rfl
      · obtain ⟨Ca, Bs, newId, initId, bmB, q1, q2, q3, q4, q5, q6, q7⟩ := O.cls x c hc
        exact ⟨Ca, Bs, newId, initId, bmB, q1, q2, q3, q4, q5, raises_own q6 q7⟩
    have run := (ss_all (C := P.ctx (callK P L)) (T := T) (cl := cl) (k := 3 * L) 60).2 body cf.body h7 so
    refine ⟨_, run, B, G, Core.entry cf ss, S.entry (by rw [hv, h8]) h9 (by omega), ?_⟩
    have key := body_reads (K := K) (T := T) (cl := cl) (X := cxOf (L2.CX Pm w) Pm w K mg base fe.N qual scope fa cdv A outer s H E) (W := fun c d _ H => E c d H) (fun c d σ H h => h) S (by rw [hv, h8]) h9 (by omega) z
    rw [h10] at key
    exact key
end
end Core
end

section
set_option Elab.async false
set_option linter.all false
set_option maxRecDepth 100000
set_option autoImplicit false
set_option maxHeartbeats 1000000
/-! The guard: try: f() / except X: return 'x' .. / return ''. -/
namespace Core
open PySem PySem.Spec PyProof.Rows L2
/-- the clauses: the class, the text that is given; no text: a clause that never catches -/
inductive ClOk (X : L2.Cx) : List ExceptHandler → List (Value × Option Str) → Prop
  | nil : ClOk X [] []
  | ret {x t : Str} {c : Value} {np p1 p2 pos : Pos} {j : Nat} {hds : List ExceptHandler} {l : List (Value × Option Str)} (hc : Names X x c) (r : ClOk X hds l) : ClOk X (.ExceptHandler (some (.Name x np)) none [.Return (some (.Constant (.str t) j p1)) p2] pos :: hds) ((c, some t) :: l)
  | skip {x : Str} {nm : Option Str} {c : Value} {np pos : Pos} {suite : List Stmt} {hds : List ExceptHandler} {l : List (Value × Option Str)} (hc : Names X x c) (r : ClOk X hds l) : ClOk X (.ExceptHandler (some (.Name x np)) nm suite pos :: hds) ((c, none) :: l)
/-- what the clauses wish -/
def wCl (K : PySem.W.Frag) (D : Ends) : List (Value × Option Str) → WX
  | [] => fun _ _ _ _ => False
  | (c, t) :: r => fun cls d σ H => ∃ b, PySem.W.exmOne K cls c = some b ∧ (b = true → ∃ x, t = some x ∧ D.rt (.str x) H) ∧ (b = false → wCl K D r cls d σ H)
section
variable {X : L2.Cx} {body : List Stmt} {h₀ : ExceptHandler} {hds : List ExceptHandler} {l : List (Value × Option Str)} {pos : Pos} {tb : WX → TS}
theorem ps_guardTry (hs : X.stack = X.env :: X.outer) (hf : X.env.frame = some X.env.locals)
    (hb : ∀ (W : WX) (pn : List (Addr × Obj)) (xe : Value → Shared → Prop), Takes (X.tr pn xe) W → PassesOwn (model X.prog X.w) X.A X.env xe → PSs (X.tr pn xe) body (tb W))
    (hh : ClOk X (h₀ :: hds) l) : PS X (.Try body (h₀ :: hds) [] [] pos) (fun D σ H => tb (wCl X.K D l) D σ H) := by
  refine ⟨fun pins s σ H D I h => wpAny_Try_except ?_⟩
  have ok := I.ok
  have hfr : X.A.frames = some (X.env :: X.outer) := by rw [ok.frames, hs]
  let caught : Value → Shared → Prop := fun e s₁ => wpAny (model X.prog X.w) X.A (noteFrame e X.env) (fun _ s₂ => wpAny (model X.prog X.w) X.A (setFlight e none) (fun _ s₃ =>
    wpAny (model X.prog X.w) X.A (handleBy e X.env (h₀ :: hds)) (SP X pins D) X.xe s₃) X.xe s₂) X.xe s₁
  refine wpAny_mono ((hb (wCl X.K D l) (X.pn ++ pins) caught (fun u s' xx => ?_) PassesOwn.looking).run [] s σ H D (I.toTry _) h) (fun f s1 hsp => ?_) (fun e s1 he => he)
  · obtain ⟨a, B, sI, pins', σ', H', cls, d, rfl, J', nb, up, sky, na, os, ag, w⟩ := xx
    have J : Inv X pins σ' H' sI := J'.ofTry ok
    have sky' : Sky B (X.env :: X.outer) a (Zc cls d) X.env.locals s'.heap := by rw [← hs]; exact sky
    show wpAny (model X.prog X.w) X.A (noteFrame (.ref a) X.env) _ _ _
    refine Sky.land Zc.steady hfr hf sky' fun h3 fl3 up3 => ?_
    have J3 : Inv X pins σ' H' { s' with heap := h3 } := J.landed nb fl3.1 (up.trans up3) os ag
    obtain ⟨oe3, vs3, he3, hz3, hd3⟩ := fl3.there
    have nfr : a ∉ frs (X.env :: X.outer) := fun hm => by
      obtain ⟨_, o', e', hnf⟩ := (fl3.2.2.1).mem hm
      rw [he3] at e'; cases e'
      exact hnf _ hd3
    have nL : a ≠ X.env.locals := fun z => nfr (List.mem_filterMap.mpr ⟨X.env, List.mem_cons_self, by rw [hf, z]⟩)
    have nF : a ∉ X.fs := fun hm => by
      obtain ⟨e, he, q⟩ := List.mem_filterMap.mp hm
      exact nfr (List.mem_filterMap.mpr ⟨e, List.mem_cons_of_mem _ he, q⟩)
    have S3 := J3.suite he3 hd3 na nL nF
    have test : ∀ {x : Str} {c : Value} {np : Pos} {b : Bool} {R : Bool → Shared → Prop} {E : Value → Shared → Prop}, Names X x c → PySem.W.exmOne X.K cls c = some b → R b { s' with heap := h3 } →
        wpAny (model X.prog X.w) (X.A.mark (some (.ref a))) (eval (.Name x np) X.env) (fun c s₁ => wpAny (model X.prog X.w) (X.A.mark (some (.ref a))) (excMatches (.ref a) c) R E s₁) E { s' with heap := h3 } := fun {x c np b R E} hc hb1 hR => by
      have LT : PySem.W.Looks (model X.prog X.w) h3 (typeOf (.ref a)) cls := fun A Q E s k q => wpAny_typeOf_ref (k _ _ he3) (by rw [hz3.1]; exact q)
      have LM := PySem.W.exm_one (M := model X.prog X.w) (J3.kIn) LT hb1
      obtain ⟨hg, hdbg, hm | ⟨hm, hv, hnn⟩⟩ := hc
      · exact ld_glob (X := X.suite a ((a, oe3) :: (X.pn ++ pins))) S3 hg hm (LM.here hR) hdbg
      · exact ld_blt (X := X.suite a ((a, oe3) :: (X.pn ++ pins))) S3 hg hm hv (LM.here hR) hnn hdbg
    have go : ∀ {hds' : List ExceptHandler} {l' : List (Value × Option Str)}, ClOk X hds' l' → wCl X.K D l' cls d σ' H' → wpAny (model X.prog X.w) X.A (handleBy (.ref a) X.env hds') (SP X pins D) X.xe { s' with heap := h3 } := by
      intro hds' l' hk
      induction hk with
      | nil => intro w; exact w.elim
      | skip hc r ih =>
        intro w
        obtain ⟨b, hb1, hyes, hno⟩ := w
        refine wpAny_handleBy_cons (codeAny_handlers_test (test hc hb1 ?_)) (by intro q; cases q)
        cases b with
        | true => obtain ⟨x, e, _⟩ := hyes rfl; cases e
        | false => exact ih (hno rfl)
      | ret hc r ih =>
        intro w
        obtain ⟨b, hb1, hyes, hno⟩ := w
        refine wpAny_handleBy_cons (codeAny_handlers_test (test hc hb1 ?_)) (by intro q; cases q)
        cases b with
        | false => exact ih (hno rfl)
        | true =>
          obtain ⟨x, e, hrt⟩ := hyes rfl
          cases e
          refine codeAny_handlers_suite ?_
          refine HandSPX.lands_againZ fl3 fun h4 fl4 up4 => ?_
          have J4 : Inv X pins σ' H' { s' with heap := h4 } := J.landed nb fl4.1 ((up.trans up3).trans up4) os ag
          obtain ⟨oe4, vs4, he4, hz4, hd4⟩ := fl4.there
          have S4 := J4.suite he4 hd4 na nL nF
          refine wpAny_mono ((pss_one (ps_ret pe_str)).run [] _ σ' H' D S4 hrt) (fun f s6 hsp => ?_) (fun _ _ z => False.elim z)
          cases f with
          | next => obtain ⟨σ6, H6, S6, q6⟩ := hsp; exact ⟨_, _, S6.unsuite ok, q6⟩
          | brk => obtain ⟨σ6, H6, S6, q6⟩ := hsp; exact ⟨_, _, S6.unsuite ok, q6⟩
          | cont => obtain ⟨σ6, H6, S6, q6⟩ := hsp; exact ⟨_, _, S6.unsuite ok, q6⟩
          | ret u => obtain ⟨v6, σ6, H6, S6, r6, q6⟩ := hsp; exact ⟨_, _, _, S6.unsuite ok, r6, q6⟩
    exact go hh w
  · cases f with
    | next => obtain ⟨σ', H', J, q⟩ := hsp; exact wpAny_execs_nil ⟨σ', H', J.ofTry ok, q⟩
    | brk => obtain ⟨σ', H', J, q⟩ := hsp; exact ⟨σ', H', J.ofTry ok, q⟩
    | cont => obtain ⟨σ', H', J, q⟩ := hsp; exact ⟨σ', H', J.ofTry ok, q⟩
    | ret u => obtain ⟨v, σ', H', J, r, q⟩ := hsp; exact ⟨v, σ', H', J.ofTry ok, r, q⟩
end
end Core
end

section
set_option Elab.async false
set_option linter.all false
set_option maxRecDepth 100000
set_option autoImplicit false
set_option maxHeartbeats 1000000
/-! The guard's promise. -/
namespace Core
open PySem PySem.Spec PyProof.Rows L2
def txtOf : D → Option Str
  | .str s => some s
  | _ => none
def clsOf (cl : Nat → Value) (hds : List (Nat × D)) : List (Value × Option Str) := hds.map fun h => (cl h.1, txtOf h.2)
theorem wCl_of {K : PySem.W.Frag} {D : Ends} {sub : Nat → Nat → Bool} {cl : Nat → Value} {n c h : Nat} {s : Str} {d : Option Addr} {σ : L2.St} {H : Hp} (hc : c < n) (hex : ∀ c h, c < n → h < n → PySem.W.exmOne K (cl c) (cl h) = some (sub c h)) (q : D.rt (.str s) H) :
    ∀ {hds : List (Nat × PyData)}, (∀ p ∈ hds, p.1 < n) → hds.find? (fun h => sub c h.1) = some (h, .str s) → wCl K D (clsOf cl hds) (cl c) d σ H
  | [], _, e => by cases e
  | p :: hds, hn, e => by
    refine ⟨sub c p.1, hex c p.1 hc (hn p List.mem_cons_self), fun hb => ?_, fun hb => ?_⟩
    · rw [List.find?_cons, hb] at e
      cases e
      exact ⟨s, rfl, q⟩
    · rw [List.find?_cons, hb] at e
      exact wCl_of hc hex q (fun x hx => hn x (List.mem_cons_of_mem _ hx)) e
section
variable {X : L2.Cx}
/-- the guard's text: try: a() / except .. / return els -/
theorem guard_gives {Ng : List Str} {x a q els : Str} {sg : Scope} {g : Addr} {cdg : Value} {j n : Nat} {p1 p2 p3 p4 p5 p6 : Pos} {hds : List ExceptHandler} {h₀ : ExceptHandler} {sub : Nat → Nat → Bool} {cl : Nat → Value} {gd : Guard}
    (hel : gd.els = .str els) (hn : ∀ p ∈ gd.hds, p.1 < n) (hsub : ∀ c h, sub c h = true → c < n) (hex : ∀ c h, c < n → h < n → PySem.W.exmOne X.K (cl c) (cl h) = some (sub c h)) (h0 : ∀ f : Addr, (L2.start Ng [V.ref f])[0]? = some (some (V.ref f)))
    (hcl : ∀ X' : L2.Cx, X'.env.scope = sg → X'.mg = X.mg → ClOk X' (h₀ :: hds) (clsOf cl gd.hds)) :
    LamX.GivesTo X Ng x sg g cdg [.Try [.Expr (.Call (.Name a p1) [] [] p2) p3] (h₀ :: hds) [] [] p4, .Return (some (.Constant (.str els) j p5)) p6] a q (TTg sub cl gd) := by
  intro f c' s H Q tl act hc h
  refine ⟨_, pss_cons (ps_guardTry (X := (cxOf C8.CX0 X.prog X.w X.K X.mg X.base Ng x sg g cdg X.A X.stack s H C8.E0).nox) (l := clsOf cl gd.hds)
      (tb := fun W D σ H => ∃ Ech : XK, (∀ cls d σ' H', Ech cls d H' → W cls d σ' H') ∧ σ[0]? = some (some (.ref f)) ∧ H c' = some (LamX.CodeO c' q) ∧ tl Ech H (fun _ H1 => D.nx σ H1))
      rfl rfl (fun W pn xe tk _ => ?_) (hcl _ rfl rfl)) (pss_one (ps_ret (pe_str (x := els)))), ?_⟩
  · refine ⟨fun pins s' σ H' D I h' => ?_⟩
    obtain ⟨Ech, hW, h1, h2, h3⟩ := h'
    have hp := act W pn xe Ech p1 p2 tk hW
    exact (pss_one (ps_expr (pos := p3) hp rfl)).run pins s' σ H' D I ⟨h1, h2, h3⟩
  · obtain h : tl (fun cls _ H' => ∃ c h s, cls = cl c ∧ gd.hds.find? (fun h => sub c h.1) = some (h, .str s) ∧ Q (.str s) H') H (fun _ H' => ∃ s, gd.els = .str s ∧ Q (.str s) H') := h
    refine ⟨fun cls _ H' => ∃ c h s, cls = cl c ∧ gd.hds.find? (fun h => sub c h.1) = some (h, .str s) ∧ Q (.str s) H', fun cls d σ' H' ⟨c, hh, s', e1, e2, e3⟩ => ?_, h0 f, hc, ?_⟩
    · rw [e1]
      have hs : sub c hh = true := by have := List.find?_some e2; exact this
      exact wCl_of (hsub c hh hs) hex e3 hn e2
    · have e : (fun (_ : V) (H' : Hp) => ∃ s, gd.els = .str s ∧ Q (.str s) H') = fun _ H' => Q (.str els) H' := by
        funext v H'
        rw [hel]
        exact propext ⟨fun ⟨s, e, q⟩ => by cases e; exact q, fun q => ⟨els, rfl, q⟩⟩
      rw [e] at h
      exact h
end
end Core
end

section
set_option Elab.async false
set_option linter.all false
set_option maxRecDepth 100000
set_option autoImplicit false
set_option maxHeartbeats 1000000
/-! From the head's facts to the program's. -/
namespace Core
open PySem PySem.Spec PyProof.Rows L2
/-- what the text must tell of a def -/
def scB (N ps : List Str) (sc : Scope) : Bool :=
  decide (sc.kind = .function) && !sc.isCoroutine && !sc.isGenerator && decide N.Nodup && decide (N.take ps.length = ps) && ps.all (fun x => decide (sc.names.lookup x = some .local) || decide (sc.names.lookup x = some .cell)) && sc.names.all fun y => !decide (y.2 = .free)
theorem scB_ok {N ps : List Str} {sc : Scope} (h : scB N ps sc = true) : FnScope N ps sc := by
  unfold scB at h
  simp only [Bool.and_eq_true, Bool.or_eq_true, Bool.not_eq_true', decide_eq_true_eq, decide_eq_false_iff_not, List.all_eq_true] at h
  obtain ⟨⟨⟨⟨⟨⟨h1, h2⟩, h3⟩, h4⟩, h5⟩, h6⟩, h7⟩ := h
  exact ⟨h1, h2, h3, h4, h5, h6, fun y hy => h7 y hy⟩
theorem scB_fn {N ps : List Str} {sc : Scope} (h : scB N ps sc = true) : sc.kind = .function ∧ N.Nodup := by
  unfold scB at h
  simp only [Bool.and_eq_true, Bool.not_eq_true', decide_eq_true_eq] at h
  exact ⟨h.1.1.1.1.1.1, h.1.1.1.2⟩
/-! ### the defs as data -/
def dOf (body : List Stmt) (i : Nat) (x : Str) : He.DefD := match body[i]? with
  | some (.FunctionDef n a b _ _ _ sc _ _ _) => ⟨(x, none), n, n, a, b, sc, [], []⟩
  | _ => ⟨("", none), "", "", ⟨[], [], none, [], [], none, []⟩, [], default, [], []⟩
def fnL (body : List Stmt) (tab : Tab) : List He.DefD := tab.fns.flatMap fun fe => fe.names.map fun x => dOf body fe.place x
def isGd (tab : Tab) (fe : FnE) : Bool := fe.names.all fun x => tab.gds.contains x
/-- one def is as the table says -/
def feB (body : List Stmt) (tab : Tab) (fe : FnE) : Bool := match body[fe.place]? with
  | some (.FunctionDef _ a _ _ _ _ sc _ _ _) => (isGd tab fe || (compF tab body fe).isSome) && scB fe.N (fe.N.take a.args.length) sc && decide (a.args.length ≤ fe.N.length)
  | _ => false
def BindOk (a : Arguments) (ps : List Str) : Prop := ∀ (n q : Str) (b : List Stmt) (sc : Scope) (kV doc pm : Value) (an : Option Addr) (cdv ct : Value) (us : List Value), us.length = ps.length → bindArgs (PySem.W.fnOf n q a b sc .none kV doc pm an cdv ct) ⟨us, []⟩ = pure (ps.zip us)
def argsAt (body : List Stmt) (i : Nat) : Arguments := match body[i]? with
  | some (.FunctionDef _ a _ _ _ _ _ _ _ _) => a
  | _ => ⟨[], [], none, [], [], none, []⟩
def BindsAll (body : List Stmt) : List FnE → Prop
  | [] => True
  | fe :: r => BindOk (argsAt body fe.place) (fe.N.take (argsAt body fe.place).args.length) ∧ BindsAll body r
theorem BindsAll.of {body : List Stmt} : ∀ {l : List FnE}, BindsAll body l → ∀ fe ∈ l, BindOk (argsAt body fe.place) (fe.N.take (argsAt body fe.place).args.length)
  | fe :: r, h, x, hx => by
    rcases List.mem_cons.mp hx with rfl | hx
    · exact h.1
    · exact BindsAll.of h.2 x hx
/-! ### the facts -/
def intC (p : Str × D) : List He.Fa := match p.2 with
  | .int i => [.int p.1 i]
  | _ => []
def faL (tab : Tab) (clsN : List Str) (sub : Nat → Nat → Bool) : List He.Fa :=
  (tab.fns.flatMap fun fe => fe.names.map He.Fa.glo) ++ clsN.map He.Fa.glo ++ bltNames.map He.Fa.free ++ tab.cons.flatMap intC ++ (tab.clss.map fun p => He.Fa.exc p.1) ++
    (List.range clsN.length).flatMap fun i => (List.range clsN.length).map fun j => He.Fa.exm (clsN.getD i "") (clsN.getD j "") (sub i j)
theorem lookup_mem {α β : Type} [BEq α] [LawfulBEq α] {x : α} {y : β} : ∀ {l : List (α × β)}, l.lookup x = some y → (x, y) ∈ l
  | (a, b) :: r, h => by
    rw [List.lookup_cons] at h
    split at h
    · rename_i e
      have : x = a := beq_iff_eq.mp e
      cases h
      rw [this]
      exact List.mem_cons_self
    · exact List.mem_cons_of_mem _ (lookup_mem h)
theorem names_mem : ∀ {l : List FnE} {k : Nat} {x : Str} {f : Nat}, (x, f) ∈ namesFrom k l → ∃ fe, k ≤ f ∧ l[f - k]? = some fe ∧ x ∈ fe.names
  | fe :: r, k, x, f, h => by
    rw [namesFrom, List.mem_append] at h
    rcases h with h | h
    · obtain ⟨y, hy, e⟩ := List.mem_map.mp h
      cases e
      exact ⟨fe, Nat.le_refl _, by simp, hy⟩
    · obtain ⟨fe', h1, h2, h3⟩ := names_mem h
      refine ⟨fe', by omega, ?_, h3⟩
      have : f - k = (f - (k + 1)) + 1 := by omega
      rw [this, List.getElem?_cons_succ]
      exact h2
section
variable {fa : List He.Fa} {fn : List He.DefD} {K : PySem.W.Frag}
theorem fact_mem (c : He.SaysD fa fn K) {f : He.Fa} (h : f ∈ fa) : f.ok K = true := by
  obtain ⟨i, hi⟩ := List.getElem?_of_mem h
  exact c.fact i hi
theorem def_mem (c : He.SaysD fa fn K) {d : He.DefD} (h : d ∈ fn) : ∃ fd, FunD K d.name d.qual d.params d.body d.scope (d.dvs K) (d.kws K) (He.fAd K d.at_) fd := by
  obtain ⟨i, hi⟩ := List.getElem?_of_mem h
  exact c.def_ i hi
end
theorem compF_ok {tab : Tab} {body : List Stmt} {fe : FnE} {cf : CF} (h : compF tab body fe = some cf) : ∃ n a b dl rt tp sc t1 t2 pos, body[fe.place]? = some (.FunctionDef n a b dl rt tp sc t1 t2 pos) ∧ compSs 60 (tab.cx fe.N sc fe.io fe.lam) b = some cf.body ∧ cf.np = a.args.length ∧ cf.slots = fe.N.length ∧ cf.io = fe.io := by
  unfold compF at h
  split at h
  · rename_i n a b dl rt tp sc t1 t2 pos e
    cases e2 : compSs 60 (tab.cx fe.N sc fe.io fe.lam) b with
    | none => rw [e2] at h; cases h
    | some c =>
      rw [e2] at h
      cases h
      exact ⟨n, a, b, dl, rt, tp, sc, t1, t2, pos, e, e2, rfl, rfl, rfl⟩
  · cases h
def clA (K : PySem.W.Frag) (clsN : List Str) (c : Nat) : Value := .ref (He.ga K (clsN.getD c ""))
theorem range_mem {n i : Nat} (h : i < n) : i ∈ List.range n := List.mem_range.mpr h
theorem def_ok {K : PySem.W.Frag} {mg : Str → Option Value} {base : Heap} {T : List (Addr × Str)} {body : List Stmt} {tab : Tab} {P : Prog} {clsN : List Str}
    (c : He.SaysD (faL tab clsN P.sub) (fnL body tab) K)
    (hP : P.fns = (tab.fns.map (compF tab body)).map fun o => o.getD ⟨0, 0, [], [.brk]⟩)
    (hfe : tab.fns.all (feB body tab) = true) (hb : BindsAll body tab.fns)
    (hlam : ∀ (f : Nat) (fe : FnE) (x n : Str) (a : Arguments) (b : List Stmt) (sc : Scope) (oc : Value) (od : Option Addr) (osl : Array (Option Value)) (dV kV doc pm cdv ct : Value) (an : Option Addr), tab.fns[f]? = some fe → fe.lam = true → x ∈ fe.names → K.lookup (He.ga K x) = some ⟨oc, od, .func (PySem.W.fnOf n n a b sc dV kV doc pm an cdv ct), osl⟩ →
      ∃ c Pt, cdv = .ref c ∧ LamX.TabB base mg c Pt ∧ (Pt, n ++ ".<locals>." ++ "<lambda>") ∈ T ∧ ∀ p ∈ T, p.1 = Pt → p.2 = n ++ ".<locals>." ++ "<lambda>")
    {x : Str} {f : Nat} {fe : FnE} (h2 : tab.fns[f]? = some fe) (h3 : x ∈ fe.names) (hg : tab.gds.contains x = false) :
    ∃ fd, DefOk K mg base T tab P f (He.ga K x) fd (fe.N.take (argsAt body fe.place).args.length) := by
  have hmem : fe ∈ tab.fns := List.mem_of_getElem? h2
  have hB := List.all_eq_true.mp hfe fe hmem
  unfold feB at hB
  have hnG : isGd tab fe = false ∨ isGd tab fe = true := by cases isGd tab fe <;> simp
  split at hB
  · rename_i n a b dl rt tp sc t1 t2 pos eb
    rw [Bool.and_eq_true, Bool.and_eq_true, decide_eq_true_iff] at hB
    obtain ⟨⟨hB1, hB2⟩, hB3⟩ := hB
    obtain ⟨fd, F⟩ := def_mem c (d := dOf body fe.place x) (List.mem_flatMap.mpr ⟨fe, hmem, List.mem_map.mpr ⟨x, h3, rfl⟩⟩)
    have ed : dOf body fe.place x = ⟨(x, none), n, n, a, b, sc, [], []⟩ := by
      unfold dOf; rw [eb]
    rw [ed] at F
    have eP : P.fns[f]? = some ((compF tab body fe).getD ⟨0, 0, [], [.brk]⟩) := by
      rw [hP, List.getElem?_map, List.getElem?_map, h2]; rfl
    have hbi := hb.of fe hmem
    have ea : argsAt body fe.place = a := by unfold argsAt; rw [eb]
    rw [ea] at hbi
    have eps : (fe.N.take a.args.length).length = a.args.length := by rw [List.length_take]; omega
    refine ⟨fd, ?_⟩
    rw [ea]
    have kp := F.kp
    have bd : L2.Binds K fd (fe.N.take a.args.length) [] := F.bindsN fun kV doc pm an cdv ct us hl => hbi n n b sc kV doc pm an cdv ct us hl
    obtain ⟨oc, od, dV, kV, doc, pm, an, cdv, ct, osl, e1, e2, e3, e4, e5⟩ := F.ex
    have hcf : ∃ cf, compF tab body fe = some cf := by
      rcases hnG with q | q
      · rw [q, Bool.false_or] at hB1
        exact Option.isSome_iff_exists.mp hB1
      · have : (compF tab body fe).isSome = true ∨ (compF tab body fe).isSome = false := by cases (compF tab body fe).isSome <;> simp
        rcases this with z | z
        · exact Option.isSome_iff_exists.mp z
        · rw [List.all_eq_true.mp q x h3] at hg
          cases hg
    obtain ⟨cf, hcf⟩ := hcf
    rw [hcf] at eP
    obtain ⟨n', a', b', dl', rt', tp', sc', t1', t2', pos', eb', hc, c1, c2, c3⟩ := compF_ok hcf
    rw [eb] at eb'
    cases eb'
    obtain ⟨k1, k2⟩ := scB_fn hB2
    refine ⟨⟨n, a, b, sc, dV, kV, doc, pm, cdv, ct, oc, an, od, osl, n, fe, cf, e1, h2, eP, by rw [← e1]; exact e2, e3, scB_ok hB2, hc, by rw [c1, eps], c2, c3, by rw [eps]; exact hB3, k2, k1, fun hl => ?_⟩, kp, bd⟩
    exact hlam f fe x n a b sc oc od osl dV kV doc pm cdv ct an h2 hl h3 (by rw [← e1]; exact e2)
  · cases hB
/-- the whole program, from the head's facts -/
theorem prog_ok {Pm : Program} {w : World} {K : PySem.W.Frag} {h : Heap} {mg : Str → Option Value} {base : Heap} {T : List (Addr × Str)} {body : List Stmt} {tab : Tab} {P : Prog} {clsN : List Str}
    (X : K.In h) (G : h.Ns mainGlobals mg) (c : He.SaysD (faL tab clsN P.sub) (fnL body tab) K)
    (hP : P.fns = (tab.fns.map (compF tab body)).map fun o => o.getD ⟨0, 0, [], [.brk]⟩)
    (hfe : tab.fns.all (feB body tab) = true) (hb : BindsAll body tab.fns) (hcon : tab.cons.all (fun p => match p.2 with | .int _ => true | _ => false) = true) (hcls : tab.clss.all (fun p => decide (clsN[p.2]? = some p.1)) = true)
    (hlam : ∀ (f : Nat) (fe : FnE) (x n : Str) (a : Arguments) (b : List Stmt) (sc : Scope) (oc : Value) (od : Option Addr) (osl : Array (Option Value)) (dV kV doc pm cdv ct : Value) (an : Option Addr), tab.fns[f]? = some fe → fe.lam = true → x ∈ fe.names → K.lookup (He.ga K x) = some ⟨oc, od, .func (PySem.W.fnOf n n a b sc dV kV doc pm an cdv ct), osl⟩ →
      ∃ c Pt, cdv = .ref c ∧ LamX.TabB base mg c Pt ∧ (Pt, n ++ ".<locals>." ++ "<lambda>") ∈ T ∧ ∀ p ∈ T, p.1 = Pt → p.2 = n ++ ".<locals>." ++ "<lambda>")
    (hgrd : ∀ (x : Str) (f : Nat), (namesFrom 0 tab.fns).lookup x = some f → tab.gds.contains x = true → ∀ X' : L2.Cx, X'.prog = Pm → X'.w = w → X'.K = K → X'.mg = mg → X'.base = base → GdFact X' x P.sub (clA K clsN) (P.guard f)) :
    ProgOk Pm w K mg base T (clA K clsN) tab P := by
  refine ⟨fun x hx _ _ _ => ?_, fun x d hd => ?_, fun x f hf hg => ?_, hgrd, fun x i hi => ?_⟩
  · exact He.free_ok X G (fact_mem c (by
      unfold faL
      simp only [List.mem_append]
      exact .inl (.inl (.inl (.inr (List.mem_map.mpr ⟨x, hx, rfl⟩))))))
  · have hm := lookup_mem hd
    have := List.all_eq_true.mp hcon _ hm
    cases d with
    | int i =>
      obtain ⟨t, ht⟩ := He.int_ok X G (x := x) (i := i) (fact_mem c (by
        unfold faL
        simp only [List.mem_append]
        exact .inl (.inl (.inr (List.mem_flatMap.mpr ⟨_, hm, List.mem_singleton.mpr rfl⟩)))))
      exact ⟨.int i, .int i t, ht, ⟨t, rfl⟩, fun G => .int i⟩
    | _ => cases this
  · obtain ⟨fe, _, h2, h3⟩ := names_mem (lookup_mem hf)
    rw [Nat.sub_zero] at h2
    have hmem : fe ∈ tab.fns := List.mem_of_getElem? h2
    obtain ⟨fd, hd⟩ := def_ok c hP hfe hb hlam h2 h3 hg
    exact ⟨_, fd, _, He.glo_ok X G (fact_mem c (by
      unfold faL
      simp only [List.mem_append]
      exact .inl (.inl (.inl (.inl (.inl (List.mem_flatMap.mpr ⟨fe, hmem, List.mem_map.mpr ⟨x, h3, rfl⟩⟩))))))), hd⟩
  · have hm := lookup_mem hi
    have hn0 : clsN[i]? = some x := of_decide_eq_true (List.all_eq_true.mp hcls _ hm)
    have hn : clsN.getD i "" = x := by rw [List.getD_eq_getElem?_getD, hn0]; rfl
    have hx := He.exc_ok (fact_mem c (f := .exc x) (by
      unfold faL
      simp only [List.mem_append]
      exact .inl (.inr (List.mem_map.mpr ⟨_, hm, rfl⟩))))
    refine ⟨He.ga K x, "ValueError", "ValueError.__new__", "ValueError.__init__", He.veBase, He.glo_ok X G (fact_mem c (by
      unfold faL
      simp only [List.mem_append]
      exact .inl (.inl (.inl (.inl (.inr (List.mem_map.mpr ⟨x, List.mem_of_getElem? hn0, rfl⟩))))))), by unfold clA; rw [hn], PySem.F.excBase_ValueError, hx.1, hx.2.1, hx.2.2.1, hx.2.2.2⟩
end Core
end

section
set_option Elab.async false
set_option linter.all false
set_option maxRecDepth 100000
set_option autoImplicit false
set_option maxHeartbeats 1000000
/-! The head's Hook without the law's table; the end. -/
namespace Core
open PySem PySem.Spec PyProof.Rows L2
/-! ### the Hook -/
/-- the table of the def that the module's name x stands for -/
def tabP (K : PySem.W.Frag) (x : Str) : Option Addr := match K.lookup (He.ga K x) with
  | some ⟨_, _, .func fd, _⟩ => (match fd.code with
    | .ref c => (match K.lookup c with
      | some ⟨_, _, .fields vs, _⟩ => (match vs[11]? with
        | some (Value.ref P) => some P
        | _ => none)
      | _ => none)
    | _ => none)
  | _ => none
def noTab (K : PySem.W.Frag) (x : Str) : Bool := match tabP K x with
  | some P => (K.lookup P).isNone
  | none => false
def asT (g : Addr → Option Obj) (n : Nat) (x : Str) : List Addr := match tabP (He.frG g (He.asD g n)) x with
  | some P => (He.asD g n).filter fun a => !(a == P)
  | none => He.asD g n
def obsT (n : Nat) (x : Str) (fa : List He.Fa) (fn : List He.DefD) (g : Addr → Option Obj) : He.AlD × Bool := (He.obsD fa fn (He.frG g (asT g n x)), noTab (He.frG g (asT g n x)) x)
def hookT (n : Nat) (x : Str) (fa : List He.Fa) (fn : List He.DefD) : PySem.W.Hook where
  α := He.AlD × Bool
  obs := fun s => obsT n x fa fn s.heap.get?
  val := fun _ => (He.valD fn, true)
  says := fun _ h => ∃ K : PySem.W.Frag, K.In h ∧ He.SaysD fa fn K ∧ noTab K x = true
  of := fun _ _ e => ⟨_, He.frG_in, congrArg Prod.fst e, congrArg Prod.snd e⟩
  keeps := fun _ _ _ ⟨K, hK, c, q⟩ k => ⟨K, PySem.W.Frag.In.keeps hK k, c, q⟩
theorem obsT_eq {n : Nat} {x : Str} {fa : List He.Fa} {fn : List He.DefD} {g : Addr → Option Obj} {s : Shared} (h : ∀ a, g a = s.heap.get? a) : obsT n x fa fn g = (hookT n x fa fn).obs s := by
  have e : g = s.heap.get? := funext h
  rw [e] <;> rfl
/-! ### the end -/
/-- the law's def holds a table of code objects that is empty -/
def HasTab (fa : Addr) (h : Heap) : Prop := ∃ (o : Obj) (fd : FuncData) (c P : Addr), h.get? fa = some o ∧ o.data = .func fd ∧ fd.code = .ref c ∧ PySem.W.CodeHd h c P ∧ h.get? P = some { cls := .none, data := .fields #[] }
theorem walk_tab {l : PySem.W.OpenLaw} {n k : Nat} {q : Program} {loose : List Str} {XP : (Str → Option Value) → Heap → Prop} {YP : World → Heap → Prop} {d : DefRec} {CX : World → CXT} {x : Str}
    (hn : l.most = some n) (hn2 : n ≤ sizeLine) (hdf : d.params.defaults = []) (hr : Room k callerA) (hrec : ((recsOf q).any fun e => e.name == d.name) = true)
    (F : ∀ (w : World) (mg : Str → Option Value) (fa : Addr) (h : Heap), YP w h → h.Ns mainGlobals mg → mg d.name = some (.ref fa) → HasTab fa h → ∃ K : PySem.W.Frag, K.In h ∧ LamX.LawAtS l w K (CX w) k n x mg fa h)
    (hCX : ∀ (w : World) (H : Hp) (s : Shared) (e : Value) (s' : Shared), CX w [] H s (fun _ _ _ => False) e s' → False) :
    PySem.W.WalkO q loose XP YP l.row.toRowW d [] (fun f vs => PySem.call f vs) := by
  refine Att.attach_callB hn hdf fun w s₀ s₁ mg mb fa o pm cd doc a vs ns G Y ho hd hcd hmg hobj hints hlen hbits hg => ?_
  have own : HasTab fa s₁.heap := by
    obtain ⟨dL, hm, hn1⟩ := List.any_eq_true.mp hrec
    have hn2 : dL.name = d.name := beq_iff_eq.mp hn1
    obtain ⟨a', o', fd', c', P', h1, h2, h3, h4, h5, h6⟩ := G.T.tab dL hm
    rw [hn2, hmg] at h1
    cases h1
    exact ⟨o', fd', c', P', h2, h3, h4, .of h5 h6, h6.2⟩
  obtain ⟨K, KX, fd, cs, sp, hT, nT, C, hb, hsp, hF⟩ := F w mg fa _ Y G.T.g hmg own
  exact LamX.law_callTs KX G.T.g G.T.b G.T.builtins G.T.nolimit hg hT nT C G.T.bmain hobj hints (Nat.le_trans hlen hn2) hr hF hb (fun H hH hS => hsp H a ns hlen hbits hH hS) fun H e s' => hCX w H s₁ e s'
theorem cx_no {Pm : Program} {w : World} {H : Hp} {s s' : Shared} {e : Value} (h : L2.CX Pm w [] H s (fun _ _ _ => False) e s') : False := by
  obtain ⟨_, _, _, _, _, _, _, _, _, _, _, _, z⟩ := h
  exact z
/-- the law at the head's heap -/
theorem law_at {l : PySem.W.OpenLaw} {w : World} {K : PySem.W.Frag} {mg : Str → Option Value} {h : Heap} {fa : Addr} {body : List Stmt} {tab : Tab} {P : Prog} {clsN : List Str} {n L lawIx : Nat}
    (X : K.In h) (G : h.Ns mainGlobals mg) (c : He.SaysD (faL tab clsN P.sub) (fnL body tab) K) (nt : noTab K "law" = true) (hfa : mg "law" = some (.ref fa)) (ht : HasTab fa h)
    (hP : P.fns = (tab.fns.map (compF tab body)).map fun o => o.getD ⟨0, 0, [], [.brk]⟩)
    (hfe : tab.fns.all (feB body tab) = true) (hb : BindsAll body tab.fns) (hcon : tab.cons.all (fun p => match p.2 with | .int _ => true | _ => false) = true) (hcls : tab.clss.all (fun p => decide (clsN[p.2]? = some p.1)) = true)
    (hlam : tab.fns.all (fun fe => !fe.lam || decide (fe.names = [("law" : Str)])) = true)
    (hgrd : ∀ (base : Heap), base.Ns mainGlobals mg → ∀ (x : Str) (f : Nat), (namesFrom 0 tab.fns).lookup x = some f → tab.gds.contains x = true → ∀ X' : L2.Cx, X'.prog = l.prog → X'.w = w → X'.K = K → X'.mg = mg → X'.base = base → GdFact X' x P.sub (clA K clsN) (P.guard f))
    {fe : FnE} (hl : tab.fns[lawIx]? = some fe) (hln : fe.names = [("law" : Str)]) (hlg : tab.gds.contains "law" = false) (hps : fe.N.take (argsAt body fe.place).args.length = [("script" : Str)]) (hn : n ≤ lineMax)
    (hT : ∀ ns : List Int, ns.length ≤ n → ∃ ps, callK P L lawIx [.v (.list (ns.map PyData.int))] = .ok (.bool true) false ps) :
    LamX.LawAtS l w K (L2.CX l.prog w) (3 * L) n "script" mg fa h := by
  obtain ⟨o, fd0, cd, Pt, t1, t2, t3, t4, t5⟩ := ht
  have efa : fa = He.ga K "law" := by
    have := He.glo_ok X G (x := "law") (fact_mem c (by
      unfold faL
      simp only [List.mem_append]
      exact .inl (.inl (.inl (.inl (.inl (List.mem_flatMap.mpr ⟨fe, List.mem_of_getElem? hl, List.mem_map.mpr ⟨"law", by rw [hln]; exact List.mem_cons_self, rfl⟩⟩)))))))
    rw [hfa] at this
    cases this
    rfl
  subst efa
  -- the def's data
  obtain ⟨fd, F⟩ := def_mem c (d := dOf body fe.place "law") (List.mem_flatMap.mpr ⟨fe, List.mem_of_getElem? hl, List.mem_map.mpr ⟨"law", by rw [hln]; exact List.mem_cons_self, rfl⟩⟩)
  have hB := List.all_eq_true.mp hfe fe (List.mem_of_getElem? hl)
  unfold feB at hB
  split at hB
  · rename_i nm a b dl rt tp sc q1 q2 pos eb
    have ed : dOf body fe.place "law" = ⟨("law", none), nm, nm, a, b, sc, [], []⟩ := by
      unfold dOf; rw [eb]
    rw [ed] at F
    have ea : argsAt body fe.place = a := by unfold argsAt; rw [eb]
    have hbi := hb.of fe (List.mem_of_getElem? hl)
    have hbind : ∀ (s : Shared) (u : Value), BindsTo s fd ⟨[u], []⟩ [("script", u)] := fun s u => by
      have z := FunD.bindsA (ps := fe.N.take (argsAt body fe.place).args.length) F (fun kV doc pm an cdv ct us hl => by rw [ea] at hbi hl ⊢; exact hbi nm nm b sc kV doc pm an cdv ct us hl) s [u] (by rw [hps]; rfl)
      rw [hps] at z
      exact z
    obtain ⟨oc, od, dV, kV, doc, pm, an, cdv, ct, osl, e1, e2, e3, e4, e5⟩ := F.ex
    have e2' : K.lookup (He.ga K "law") = some ⟨oc, od, .func fd, osl⟩ := e2
    have g1 := X _ _ e2'
    rw [t1] at g1
    cases g1
    have efd : fd0 = fd := by
      have : (Data.func fd : Data) = .func fd0 := t2
      cases this; rfl
    subst efd
    have ecdv : cdv = .ref cd := by
      rw [e1] at t3
      exact t3
    subst ecdv
    -- the table is not in K
    have hnP : K.lookup Pt = none := by
      unfold noTab tabP at nt
      rw [e2'] at nt
      dsimp only at nt
      rw [t3] at nt
      dsimp only at nt
      cases ek : K.lookup cd with
      | none => rw [ek] at nt; cases nt
      | some oo =>
        obtain ⟨kc, kd, kdt, ks⟩ := oo
        rw [ek] at nt
        obtain ⟨o1, vs1, file, tf, flags, tg, inF, text, tt, u1, u2, u3, u4, _⟩ := t4
        have gk := X _ _ ek
        rw [u1] at gk
        cases gk
        have u3' : kdt = .fields vs1 := u3
        subst u3'
        dsimp only at nt
        rw [u4] at nt
        dsimp only at nt
        exact Option.isNone_iff_eq_none.mp nt
    refine ⟨fd0, [(cd, Pt)], spF K [(Pt, nm ++ ".<locals>." ++ "<lambda>")] (clA K clsN) (P.ctx (callK P L)) lawIx, ?_, ?_, ?_, hbind, ?_, ?_⟩
    · intro p hp
      rw [List.mem_singleton] at hp
      rw [hp]; exact t5
    · intro p hp
      rw [List.mem_singleton] at hp
      rw [hp]; exact hnP
    · intro p hp
      rw [List.mem_singleton] at hp
      rw [hp]; exact t4
    · intro H sa ns hlen _ hH hS
      obtain ⟨ps, hcall⟩ := hT ns hlen
      have hHP := hH (cd, Pt) List.mem_cons_self
      let G : Hp := fun b => match H b with
        | some (.tbl _) => none
        | o => if b = sa then o else none
      have gG : ∀ b o, G b = some o → H b = some o ∧ ∀ ps, o ≠ .tbl ps := fun b o e => by
        have e : (match H b with
          | some (.tbl _) => none
          | o => if b = sa then o else none) = some o := e
        cases q : H b with
        | none =>
          rw [q] at e
          dsimp only at e
          split at e <;> cases e
        | some u =>
          rw [q] at e
          cases u with
          | tbl ps => cases e
          | _ =>
            dsimp only at e
            split at e
            · cases e
              exact ⟨rfl, fun _ z => by cases z⟩
            · cases e
      have gS : ∀ o, H sa = some o → (∀ ps, o ≠ .tbl ps) → G sa = some o := fun o e ne => by
        show (match H sa with
          | some (.tbl _) => none
          | o => if sa = sa then o else none) = some o
        rw [e]
        cases o with
        | tbl ps => exact absurd rfl (ne ps)
        | _ => exact if_pos rfl
      have sG : SqL K G sa (ns.map V.int) := by
        rcases hS with (z | ⟨o, z⟩) | z
        · exact .inl (.inl (gS _ z fun _ q => by cases q))
        · exact .inl (.inr ⟨o, gS _ z fun _ q => by cases q⟩)
        · exact .inr z
      have rp : Rp K G (.ref sa) (.list (ns.map PyData.int)) := .lst sG (by rw [List.length_map]; exact Nat.le_trans hlen hn) (rp_ints ns)
      refine ⟨fun _ => none, G, [.v (.list (ns.map PyData.int))], ⟨⟨fun p hp => ?_, fun _ _ => rfl, fun p hp => ?_, (fun _ _ z => by cases z), fun b ps z => (gG b _ z).2 ps rfl⟩, rfl, fun b o z => (gG b o z).1, (fun b o z => by cases z), fun i s z => ?_, fun i j b ⟨⟨s, z1, z2⟩, _⟩ _ => ?_⟩, ?_⟩
      · rw [List.mem_singleton] at hp
        subst hp
        exact ⟨#[], hHP, (by first | exact .nil | trivial | simp), fun pos cv z => by first | cases z | simp [codeAmong] at z⟩
      · rw [List.mem_singleton] at hp
        subst hp
        show (match H Pt with
          | some (.tbl _) => none
          | o => if Pt = sa then o else none) = none
        rw [hHP]
      · cases i with
        | zero =>
          cases z
          exact ⟨.ref sa, rfl, rp⟩
        | succ i => cases z
      · cases i with
        | zero => cases z1; cases z2
        | succ i => cases z1
      · show (match callK P L lawIx [.v (.list (ns.map PyData.int))] with
          | .ok d new ps => ∀ G' H', GX (fun _ => none) G G' → R K _ (fun _ => none) G' ps ([V.ref sa].map some) H' → ∀ v, RVR K (fun _ => none) G' ps ([V.ref sa].map some) H' v (if new then .n d else .f d) → v = .bl true
          | .ex x ps => _
          | .bad => False)
        rw [hcall]
        intro G' H' _ _ v hv
        have hv : Rp K G' v (.bool true) := hv
        cases hv
        rfl
    · intro base Kb Gb tb
      have hlam' : ∀ (f : Nat) (fe : FnE) (x n : Str) (a : Arguments) (b : List Stmt) (sc : Scope) (oc : Value) (od : Option Addr) (osl : Array (Option Value)) (dV kV doc pm cdv ct : Value) (an : Option Addr), tab.fns[f]? = some fe → fe.lam = true → x ∈ fe.names → K.lookup (He.ga K x) = some ⟨oc, od, .func (PySem.W.fnOf n n a b sc dV kV doc pm an cdv ct), osl⟩ →
          ∃ c Pt', cdv = .ref c ∧ LamX.TabB base mg c Pt' ∧ (Pt', n ++ ".<locals>." ++ "<lambda>") ∈ [(Pt, nm ++ ".<locals>." ++ "<lambda>")] ∧ ∀ p ∈ [(Pt, nm ++ ".<locals>." ++ "<lambda>")], p.1 = Pt' → p.2 = n ++ ".<locals>." ++ "<lambda>" := by
        intro f fe' x n a' b' sc' oc' od' osl' dV' kV' doc' pm' cdv' ct' an' k1 k2 k3 k4
        have z := List.all_eq_true.mp hlam fe' (List.mem_of_getElem? k1)
        rw [k2, Bool.not_true, Bool.false_or] at z
        rw [of_decide_eq_true z, List.mem_singleton] at k3
        subst k3
        rw [e2'] at k4
        have k5 := Option.some.inj k4
        have k6 : (Data.func fd0 : Data) = .func (PySem.W.fnOf n n a' b' sc' dV' kV' doc' pm' an' cdv' ct') := congrArg Obj.data k5
        have k7 := Data.func.inj k6
        have k8 : cdv' = .ref cd := by
          have := congrArg FuncData.code k7
          rw [t3] at this
          exact this.symm
        have k9 : n = nm := by
          have := congrArg FuncData.name k7
          rw [e1] at this
          exact this.symm
        subst k8 k9
        exact ⟨cd, Pt, rfl, tb (cd, Pt) List.mem_cons_self, List.mem_cons_self, fun p hp _ => by rw [List.mem_singleton] at hp; rw [hp]⟩
      have O : ProgOk l.prog w K mg base [(Pt, nm ++ ".<locals>." ++ "<lambda>")] (clA K clsN) tab P := prog_ok X G c hP hfe hb hcon hcls hlam' (hgrd base Gb)
      obtain ⟨fd', hd⟩ := def_ok c hP hfe hb hlam' hl (x := "law") (by rw [hln]; exact List.mem_cons_self) hlg
      have ef : fd' = fd0 := by
        obtain ⟨qual, params, bd, scope, dV', kV', doc', pm', cdv', ct', oc', an', od', osl', name', fe', cf', r1, _, _, r4, _⟩ := hd.ex
        rw [e2'] at r4
        have k6 : (Data.func fd0 : Data) = .func (PySem.W.fnOf name' qual params bd scope dV' kV' doc' pm' an' cdv' ct') := congrArg Obj.data (Option.some.inj r4)
        rw [r1, ← Data.func.inj k6]
      rw [ef, hps] at hd
      exact defs_ok O L lawIx _ fd0 [("script" : Str)] hd
  · cases hB
end Core
end

section
set_option Elab.async false
set_option linter.all false
set_option maxRecDepth 100000
set_option autoImplicit false
set_option maxHeartbeats 1000000
/-! The guard from the head's facts. -/
namespace Core
open PySem PySem.Spec PyProof.Rows L2
/-- the guard's clauses are as the table says -/
def clB (clsN : List Str) (sg : Scope) : List ExceptHandler → List (Nat × D) → Bool
  | [], [] => true
  | .ExceptHandler (some (.Name x _)) nm suite _ :: hds, (c, d) :: gh => decide (clsN[c]? = some x) && decide (sg.names.lookup x = some .globalImplicit) && tameN x && (match d with
    | .none => true
    | .str t => (match nm, suite with
      | none, [.Return (some (.Constant (.str t') _ _)) _] => decide (t' = t)
      | _, _ => false)
    | _ => false) && clB clsN sg hds gh
  | _, _ => false
theorem clB_ok {X : L2.Cx} {K : PySem.W.Frag} {clsN : List Str} {sg : Scope} (hs : X.env.scope = sg) (hm : ∀ x ∈ clsN, X.mg x = some (.ref (He.ga K x))) : ∀ {hds : List ExceptHandler} {gh : List (Nat × D)}, clB clsN sg hds gh = true → ClOk X hds (clsOf (clA K clsN) gh)
  | [], [], _ => .nil
  | [], _ :: _, h => by simp [clB] at h
  | .ExceptHandler none nm suite pos :: hds, gh, h => by cases gh <;> simp [clB] at h
  | .ExceptHandler (some e) nm suite pos :: hds, gh, h => by
    cases gh with
    | nil => cases e <;> simp [clB] at h
    | cons p gh =>
      obtain ⟨c, d⟩ := p
      cases e with
      | Name x np =>
        unfold clB at h
        simp only [Bool.and_eq_true, decide_eq_true_iff] at h
        obtain ⟨⟨⟨⟨h1, h2⟩, h3⟩, h4⟩, h5⟩ := h
        have ih := clB_ok hs hm h5
        obtain ⟨t1, t2, t3⟩ := tame_of h3
        have hx : clA K clsN c = .ref (He.ga K x) := by
          unfold clA
          rw [List.getD_eq_getElem?_getD, h1]; rfl
        have nmx : Names X x (clA K clsN c) := by
          refine ⟨?_, t1, .inl ?_⟩
          · show X.env.scope.names.lookup x = some .globalImplicit
            rw [hs]; exact h2
          · rw [hx]; exact hm x (List.mem_of_getElem? h1)
        cases d with
        | none => exact .skip nmx ih
        | str t =>
          dsimp only at h4
          split at h4
          · rename_i t' j p1 p2
            have := of_decide_eq_true h4
            subst this
            exact .ret nmx ih
          · cases h4
        | _ => cases h4
      | _ => simp [clB] at h
theorem exm_mem {tab : Tab} {clsN : List Str} {sub : Nat → Nat → Bool} {i j : Nat} (hi : i < clsN.length) (hj : j < clsN.length) : He.Fa.exm (clsN.getD i "") (clsN.getD j "") (sub i j) ∈ faL tab clsN sub := by
  unfold faL
  refine List.mem_append_right _ (List.mem_flatMap.mpr ⟨i, range_mem hi, List.mem_map.mpr ⟨j, range_mem hj, rfl⟩⟩)
theorem grd_ok {K : PySem.W.Frag} {h : Heap} {mg : Str → Option Value} {body : List Stmt} {tab : Tab} {P : Prog} {clsN : List Str} {x : Str} {f : Nat} {fe : FnE} {els : Str}
    {a : Str} {sc : Scope} {p1 p2 p3 p4 p5 p6 : Pos} {h₀ : ExceptHandler} {hds : List ExceptHandler} {j : Nat} {ar : Arguments}
    (X : K.In h) (G : h.Ns mainGlobals mg) (c : He.SaysD (faL tab clsN P.sub) (fnL body tab) K) (hb : BindsAll body tab.fns) (hfe : tab.fns.all (feB body tab) = true)
    (h1 : tab.fns[f]? = some fe) (h2 : fe.names = [x]) (hN : fe.N = [a])
    (hd : dOf body fe.place x = ⟨(x, none), x, x, ar, [.Try [.Expr (.Call (.Name a p1) [] [] p2) p3] (h₀ :: hds) [] [] p4, .Return (some (.Constant (.str els) j p5)) p6], sc, [], []⟩)
    (hps : fe.N.take (argsAt body fe.place).args.length = [a]) (hv : sc.names.lookup a = some .local) (ht : tameN a = true) (hel : (P.guard f).els = .str els) (hn : ∀ p ∈ (P.guard f).hds, p.1 < clsN.length) (hsub : ∀ c h, P.sub c h = true → c < clsN.length)
    (hcl : clB clsN sc (h₀ :: hds) (P.guard f).hds = true) {X' : L2.Cx} (hK : X'.K = K) (hm : X'.mg = mg) : GdFact X' x P.sub (clA K clsN) (P.guard f) := by
  subst hK hm
  have hmem : fe ∈ tab.fns := List.mem_of_getElem? h1
  have hx : x ∈ fe.names := by rw [h2]; exact List.mem_cons_self
  obtain ⟨fd, F⟩ := def_mem c (d := dOf body fe.place x) (List.mem_flatMap.mpr ⟨fe, hmem, List.mem_map.mpr ⟨x, hx, rfl⟩⟩)
  have hB := List.all_eq_true.mp hfe fe hmem
  unfold feB at hB
  split at hB
  · rename_i nm a0 b0 dl0 rt0 tp0 sc0 q1 q2 pos0 eb
    have ed : dOf body fe.place x = ⟨(x, none), nm, nm, a0, b0, sc0, [], []⟩ := by
      unfold dOf; rw [eb]
    have ea : argsAt body fe.place = a0 := by unfold argsAt; rw [eb]
    rw [hd] at ed
    injection ed with r1 r2 r3 r4 r5 r6 r7 r8
    subst r2 r4 r6
    rw [hd] at F
    rw [Bool.and_eq_true, Bool.and_eq_true] at hB
    have hS := scB_ok hB.1.2
    have hbi := hb.of fe hmem
    rw [ea] at hps hbi
    rw [hps] at hbi hS
    rw [hN] at hS
    have kp := F.kp
    have bd : L2.Binds X'.K fd [a] [] := F.bindsN fun kV doc pm an cdv ct us hl => hbi x x _ sc kV doc pm an cdv ct us hl
    obtain ⟨oc, od, dV, kV, doc, pm, an, cdv, ct, osl, e1, e2, e3, e4, e5⟩ := F.ex
    obtain ⟨tt1, tt2, tt3⟩ := tame_of ht
    refine ⟨He.ga X'.K x, a, [a], sc, _, ar, dV, kV, doc, pm, cdv, ct, oc, an, od, osl, He.glo_ok X G (fact_mem c (by
      unfold faL
      simp only [List.mem_append]
      exact .inl (.inl (.inl (.inl (.inl (List.mem_flatMap.mpr ⟨fe, hmem, List.mem_map.mpr ⟨x, hx, rfl⟩⟩))))))), kp, by rw [← e1]; exact e2, e3, by rw [← e1]; exact bd, hS, rfl, .inl hv, tt1, tt2, fun q => ?_⟩
    refine guard_gives (n := clsN.length) hel hn hsub (fun c1 h1 hc hh => He.exm_ok (fact_mem c (exm_mem hc hh))) (fun f => rfl) fun X2 hs2 hm2 => ?_
    refine clB_ok hs2 (fun y hy => ?_) hcl
    rw [hm2]
    exact He.glo_ok X G (fact_mem c (by
      unfold faL
      simp only [List.mem_append]
      exact .inl (.inl (.inl (.inl (.inr (List.mem_map.mpr ⟨y, hy, rfl⟩)))))))
  · cases hB
/-- binding, by arity -/
theorem BindOk.c1 {a : Arguments} {ps : List Str} {x : Str} (h : ps = [x]) (k : ∀ (n q : Str) (b : List Stmt) (sc : Scope) (kV doc pm : Value) (an : Option Addr) (cdv ct : Value) (u1 : Value), bindArgs (PySem.W.fnOf n q a b sc .none kV doc pm an cdv ct) ⟨[u1], []⟩ = pure [(x, u1)]) : BindOk a ps := by
  subst h
  intro n q b sc kV doc pm an cdv ct us hl
  match us, hl with
  | [u1], _ => exact k n q b sc kV doc pm an cdv ct u1
theorem BindOk.c2 {a : Arguments} {ps : List Str} {x y : Str} (h : ps = [x, y]) (k : ∀ (n q : Str) (b : List Stmt) (sc : Scope) (kV doc pm : Value) (an : Option Addr) (cdv ct : Value) (u1 u2 : Value), bindArgs (PySem.W.fnOf n q a b sc .none kV doc pm an cdv ct) ⟨[u1, u2], []⟩ = pure [(x, u1), (y, u2)]) : BindOk a ps := by
  subst h
  intro n q b sc kV doc pm an cdv ct us hl
  match us, hl with
  | [u1, u2], _ => exact k n q b sc kV doc pm an cdv ct u1 u2
theorem BindOk.c3 {a : Arguments} {ps : List Str} {x y z : Str} (h : ps = [x, y, z]) (k : ∀ (n q : Str) (b : List Stmt) (sc : Scope) (kV doc pm : Value) (an : Option Addr) (cdv ct : Value) (u1 u2 u3 : Value), bindArgs (PySem.W.fnOf n q a b sc .none kV doc pm an cdv ct) ⟨[u1, u2, u3], []⟩ = pure [(x, u1), (y, u2), (z, u3)]) : BindOk a ps := by
  subst h
  intro n q b sc kV doc pm an cdv ct us hl
  match us, hl with
  | [u1, u2, u3], _ => exact k n q b sc kV doc pm an cdv ct u1 u2 u3
theorem BindOk.c4 {a : Arguments} {ps : List Str} {x y z w : Str} (h : ps = [x, y, z, w]) (k : ∀ (n q : Str) (b : List Stmt) (sc : Scope) (kV doc pm : Value) (an : Option Addr) (cdv ct : Value) (u1 u2 u3 u4 : Value), bindArgs (PySem.W.fnOf n q a b sc .none kV doc pm an cdv ct) ⟨[u1, u2, u3, u4], []⟩ = pure [(x, u1), (y, u2), (z, u3), (w, u4)]) : BindOk a ps := by
  subst h
  intro n q b sc kV doc pm an cdv ct us hl
  match us, hl with
  | [u1, u2, u3, u4], _ => exact k n q b sc kV doc pm an cdv ct u1 u2 u3 u4
theorem BindOk.c5 {a : Arguments} {ps : List Str} {x y z w v : Str} (h : ps = [x, y, z, w, v]) (k : ∀ (n q : Str) (b : List Stmt) (sc : Scope) (kV doc pm : Value) (an : Option Addr) (cdv ct : Value) (u1 u2 u3 u4 u5 : Value), bindArgs (PySem.W.fnOf n q a b sc .none kV doc pm an cdv ct) ⟨[u1, u2, u3, u4, u5], []⟩ = pure [(x, u1), (y, u2), (z, u3), (w, u4), (v, u5)]) : BindOk a ps := by
  subst h
  intro n q b sc kV doc pm an cdv ct us hl
  match us, hl with
  | [u1, u2, u3, u4, u5], _ => exact k n q b sc kV doc pm an cdv ct u1 u2 u3 u4 u5
end Core
end

section
set_option linter.all false
set_option autoImplicit false
set_option maxRecDepth 100000
/-! Rules for the evaluator's loops. -/
namespace Core
open PySem PySem.W
inductive All2 {α β : Type} (Q : α → β → Prop) : List α → List β → Prop
  | nil : All2 Q [] []
  | cons {x : α} {y : β} {xs : List α} {ys : List β} (h : Q x y) (t : All2 Q xs ys) : All2 Q (x :: xs) (y :: ys)
theorem All2.len {α β : Type} {Q : α → β → Prop} : ∀ {xs : List α} {ys : List β}, All2 Q xs ys → xs.length = ys.length
  | _, _, .nil => rfl
  | _, _, .cons _ t => by rw [List.length_cons, List.length_cons, t.len]
theorem gen_eqs : True := by
  have _ := @evS.eq_1
  have _ := @evE.eq_1
  have _ := @evS.eq_15
  trivial
/-! ### comprehensions -/
/-- a comprehension without effects -/
theorem lcGo_pure {tg : TG} {cond : Env → Out Bool} {elt : Env → Out D} {own : List Nat} {env0 : Env} (p : D → Bool) (g : D → D) : ∀ (xs : List D),
    (∀ x ∈ xs, ∃ env1, bindT tg x env0 = some env1 ∧ cond env1 = .ok (p x) env1 ∧ (p x = true → elt env1 = .ok (g x) env1) ∧ wipe own env1 = env0) → lcGo tg cond elt own xs env0 = .ok ((xs.filter p).map g) env0
  | [], _ => rfl
  | x :: xs, h => by
    obtain ⟨env1, h1, h2, h3, h4⟩ := h x List.mem_cons_self
    have ih := lcGo_pure p g xs fun y hy => h y (List.mem_cons_of_mem _ hy)
    unfold lcGo
    rw [h1]
    dsimp only
    rw [h2]
    cases e : p x with
    | true =>
      dsimp only
      rw [h3 e]
      dsimp only
      rw [h4, ih, List.filter_cons, if_pos e]
      rfl
    | false =>
      dsimp only
      rw [h4, ih, List.filter_cons, if_neg (by rw [e]; exact Bool.false_ne_true)]
/-- a comprehension with effects: what holds of the environment, what holds of each item -/
theorem lcGo_rel {tg : TG} {cond : Env → Out Bool} {elt : Env → Out D} {own : List Nat} (Rl : Env → Prop) (Q : D → D → Prop) : ∀ (xs : List D),
    (∀ x ∈ xs, ∀ env, Rl env → ∃ env1 env2 env3 d, bindT tg x env = some env1 ∧ cond env1 = .ok true env2 ∧ elt env2 = .ok d env3 ∧ Rl (wipe own env3) ∧ Q x d) →
    ∀ env, Rl env → ∃ ds env', lcGo tg cond elt own xs env = .ok ds env' ∧ Rl env' ∧ All2 Q xs ds
  | [], _, env, r => ⟨[], env, rfl, r, .nil⟩
  | x :: xs, h, env, r => by
    obtain ⟨env1, env2, env3, d, h1, h2, h3, h4, h5⟩ := h x List.mem_cons_self env r
    obtain ⟨ds, env', e1, e2, e3⟩ := lcGo_rel Rl Q xs (fun y hy => h y (List.mem_cons_of_mem _ hy)) _ h4
    refine ⟨d :: ds, env', ?_, e2, .cons h5 e3⟩
    unfold lcGo
    rw [h1]; dsimp only
    rw [h2]; dsimp only
    rw [h3]; dsimp only
    rw [e1]
theorem lc_pure {C : Ctx} {elt : CE} {tg : TG} {it : IT} {ifs : List CE} {own : List Nat} {env env1 env2 : Env} {xs ds : List D} (p : D → Bool) (g : D → D) (hI : evI C it env = .ok xs env1)
    (h : ∀ x ∈ xs, ∃ e1, bindT tg x (wipe own env1) = some e1 ∧ evC C ifs e1 = .ok (p x) e1 ∧ (p x = true → (evE C elt e1).bind frz = .ok (g x) e1) ∧ wipe own e1 = wipe own env1) (hd : (xs.filter p).map g = ds) (hb : back own env1 (wipe own env1) = env2) :
    evE C (.lc elt tg it ifs own) env = .ok (.n (.list ds)) env2 := by
  rw [evE, hI]
  dsimp only [Out.bind]
  have k := lcGo_pure p g xs h
  dsimp only [Out.bind] at k
  rw [k]
  dsimp only
  rw [hd, hb]
/-- without tests -/
theorem lc_map {C : Ctx} {elt : CE} {tg : TG} {it : IT} {own : List Nat} {env env1 env2 : Env} {xs ds : List D} (g : D → D) (hI : evI C it env = .ok xs env1)
    (h : ∀ x ∈ xs, ∃ e1, bindT tg x (wipe own env1) = some e1 ∧ (evE C elt e1).bind frz = .ok (g x) e1 ∧ wipe own e1 = wipe own env1) (hd : xs.map g = ds) (hb : back own env1 (wipe own env1) = env2) :
    evE C (.lc elt tg it [] own) env = .ok (.n (.list ds)) env2 :=
  lc_pure (fun _ => true) g hI (fun x hx => let ⟨e1, h1, h2, h3⟩ := h x hx; ⟨e1, h1, rfl, fun _ => h2, h3⟩) (by rw [List.filter_eq_self.mpr (fun _ _ => rfl), hd]) hb
theorem lc_rel {C : Ctx} {elt : CE} {tg : TG} {it : IT} {own : List Nat} {env env1 : Env} {xs : List D} (Rl : Env → Prop) (Q : D → D → Prop) (hI : evI C it env = .ok xs env1) (h0 : Rl (wipe own env1))
    (h : ∀ x ∈ xs, ∀ e, Rl e → ∃ e1 e3 d, bindT tg x e = some e1 ∧ (evE C elt e1).bind frz = .ok d e3 ∧ Rl (wipe own e3) ∧ Q x d) :
    ∃ ds e', evE C (.lc elt tg it [] own) env = .ok (.n (.list ds)) (back own env1 e') ∧ Rl e' ∧ All2 Q xs ds := by
  obtain ⟨ds, e', k1, k2, k3⟩ := lcGo_rel (cond := evC C []) (elt := fun e => (evE C elt e).bind frz) Rl Q xs (fun x hx e r => let ⟨e1, e3, d, h1, h2, h3, h4⟩ := h x hx e r; ⟨e1, e1, e3, d, h1, rfl, h2, h3, h4⟩) _ h0
  refine ⟨ds, e', ?_, k2, k3⟩
  rw [evE, hI]
  dsimp only [Out.bind] at k1 ⊢
  rw [k1]
/-! ### for -/
theorem forGo_rel {σ : Type} {tg : TG} {body : Env → Out Fl} (Rl : σ → Env → Prop) (step : σ → D → σ) : ∀ (xs : List D),
    (∀ x ∈ xs, ∀ s env, Rl s env → ∃ env1 env2, bindT tg x env = some env1 ∧ body env1 = .ok .next env2 ∧ Rl (step s x) env2) →
    ∀ s env, Rl s env → ∃ env', forGo tg body xs env = .ok .next env' ∧ Rl (xs.foldl step s) env'
  | [], _, s, env, r => ⟨env, rfl, r⟩
  | x :: xs, h, s, env, r => by
    obtain ⟨env1, env2, h1, h2, h3⟩ := h x List.mem_cons_self s env r
    obtain ⟨env', e1, e2⟩ := forGo_rel Rl step xs (fun y hy => h y (List.mem_cons_of_mem _ hy)) _ _ h3
    refine ⟨env', ?_, e2⟩
    unfold forGo
    rw [h1]; dsimp only
    rw [h2]; dsimp only
    exact e1
/-- the same with what a turn may do left open -/
theorem forGo_inv {tg : TG} {body : Env → Out Fl} (I : Nat → Env → Prop) : ∀ (xs : List D) (i : Nat),
    (∀ (j : Nat) (x : D), xs[j]? = some x → ∀ env, I (i + j) env → ∃ env1 env2, bindT tg x env = some env1 ∧ body env1 = .ok .next env2 ∧ I (i + j + 1) env2) →
    ∀ env, I i env → ∃ env', forGo tg body xs env = .ok .next env' ∧ I (i + xs.length) env'
  | [], i, _, env, r => ⟨env, rfl, r⟩
  | x :: xs, i, h, env, r => by
    obtain ⟨env1, env2, h1, h2, h3⟩ := h 0 x rfl env r
    obtain ⟨env', e1, e2⟩ := forGo_inv I xs (i + 1) (fun j y hy env hi => by
      have z := h (j + 1) y (by rw [List.getElem?_cons_succ]; exact hy) env (by have e : i + (j + 1) = i + 1 + j := by omega
                                                                                rw [e]; exact hi)
      have e : i + (j + 1) + 1 = i + 1 + j + 1 := by omega
      rw [e] at z
      exact z) _ h3
    refine ⟨env', ?_, by have e : i + (x :: xs).length = i + 1 + xs.length := by rw [List.length_cons]; omega
                         rw [e]; exact e2⟩
    unfold forGo
    rw [h1]; dsimp only
    rw [h2]; dsimp only
    exact e1
theorem forGo_next {tg : TG} {body : Env → Out Fl} {x : D} {xs : List D} {env env1 env2 : Env} (h1 : bindT tg x env = some env1) (h2 : body env1 = .ok .next env2) : forGo tg body (x :: xs) env = forGo tg body xs env2 := by
  rw [forGo, h1]; dsimp only; rw [h2]
theorem forGo_ret {tg : TG} {body : Env → Out Fl} {x : D} {xs : List D} {env env1 env2 : Env} {r : RV} (h1 : bindT tg x env = some env1) (h2 : body env1 = .ok (.ret r) env2) : forGo tg body (x :: xs) env = .ok (.ret r) env2 := by
  rw [forGo, h1]; dsimp only; rw [h2]
/-! ### while -/
theorem whileGo_go {test : Env → Out Bool} {body : Env → Out Fl} {n : Nat} {env env1 env2 : Env} (h1 : test env = .ok true env1) (h2 : body env1 = .ok .next env2) : whileGo test body (n + 1) env = whileGo test body n env2 := by
  rw [whileGo, h1]
  dsimp only [Out.bind]
  rw [if_pos rfl, h2]
theorem whileGo_end {test : Env → Out Bool} {body : Env → Out Fl} {n : Nat} {env env1 : Env} (h1 : test env = .ok false env1) : whileGo test body (n + 1) env = .ok .next env1 := by
  rw [whileGo, h1]
  dsimp only [Out.bind]
  rw [if_neg Bool.false_ne_true]
/-! ### calls -/
theorem callK_eq {P : Prog} {k f : Nat} {cf : CF} {ss : List Sl} (h : P.fns[f]? = some cf) (hl : ss.length = cf.np) : callK P (k + 1) f ss = finish cf (evSs (P.ctx (callK P k)) cf.body (entry cf ss)) := by
  rw [callK, h]
  dsimp only
  rw [if_pos hl]
def retsTrue : Out Fl → Bool
  | .ok (.ret (.f (.bool true))) _ => true
  | _ => false
theorem retsTrue_ok {o : Out Fl} (h : retsTrue o = true) : ∃ env, o = .ok (.ret (.f (.bool true))) env := by
  unfold retsTrue at h
  split at h
  · exact ⟨_, rfl⟩
  · cases h
theorem evSs_app {C : Ctx} : ∀ (a b : List CS) {env env' : Env}, evSs C a env = .ok .next env' → evSs C (a ++ b) env = evSs C b env'
  | [], b, env, env', h => by
    have : env = env' := by
      have h : Out.ok Fl.next env = Out.ok Fl.next env' := h
      cases h; rfl
    rw [this]; rfl
  | s :: a, b, env, env', h => by
    rw [List.cons_append, evSs]
    rw [evSs] at h
    cases e : evS C s env with
    | ok f e1 =>
      rw [e] at h
      dsimp only [Out.bind] at h ⊢
      cases f with
      | next => exact evSs_app a b h
      | _ => cases h
    | _ => rw [e] at h; cases h
end Core
end

section
set_option linter.all false
set_option maxRecDepth 100000
/-! The core terms of k65. -/
namespace Core.C65
open PySem Core
def b0 : List CS := [.ret (.and_ (.o1 .isI (.var 0)) (.and_ (.not_ (.o1 .isB (.var 0))) (.chn .le .le (.var 1) (.var 0) (.var 2))))]
def cf0 : CF := ⟨3, 3, [0, 1, 2], b0⟩

def b1 : List CS := [.ret (.and_ (.o1 .isT (.var 0)) (.chn .le .le (.var 1) (.o1 .len (.var 0)) (.var 2)))]
def cf1 : CF := ⟨3, 3, [0, 1, 2], b1⟩

def q2_0 : CE := .lc (.o2 .lt (.var 1) (.var 2)) (.tp [(.nm 1), (.nm 2)]) (.zip (.var 0) (.slc (.var 0) [(.cst (.int 1))] [])) [] [1, 2]
def b2 : List CS := [.ret (.o1 .all_ q2_0)]
def cf2 : CF := ⟨1, 3, [0], b2⟩

def q3_0 : CE := .lc (.call 1 [(.var 2), (.cst (.int 2)), (.cst (.int 2))]) (.nm 2) (.seq (.var 0)) [] [2]
def q3_1 : CE := .lc (.and_ (.call 0 [(.o2 .idx (.var 2) (.cst (.int 0))), (.cst (.int 0)), (.o2 .sub (.cst (.int 16)) (.cst (.int 1)))]) (.call 0 [(.o2 .idx (.var 2) (.cst (.int 1))), (.cst (.int 0)), (.o2 .sub (.var 1) (.cst (.int 1)))])) (.nm 2) (.seq (.var 0)) [] [2]
def q3_2 : CE := .lc (.o2 .idx (.var 2) (.cst (.int 0))) (.nm 2) (.seq (.var 0)) [] [2]
def b3 : List CS := [.ite (.or_ (.not_ (.call 1 [(.var 0), (.cst (.int 0)), (.cst (.int 16))])) (.not_ (.o1 .all_ q3_0))) [.ret (.cst (.bool false))] [], .ite (.not_ (.o1 .all_ q3_1)) [.ret (.cst (.bool false))] [], .ret (.call 2 [(.o1 .tuple_ q3_2)])]
def cf3 : CF := ⟨2, 3, [0, 1], b3⟩

def l4_0 : List CS := [.ite (.o2 .gt (.var 5) (.var 1)) [.ret (.cst (.bool false))] [], .asg 1 (.ite (.o2 .eq (.var 5) (.var 1)) (.o2 .add (.var 1) (.cst (.int 1))) (.var 1))]
def l4_1 : List CS := [.ite (.o2 .ge (.var 2) (.var 1)) [.ret (.cst (.bool false))] [], .for_ (.tp [(.nm 4), (.nm 5)]) (.seq (.var 3)) l4_0]
def b4 : List CS := [.asg 1 (.cst (.int 1)), .for_ (.tp [(.nm 2), (.nm 3)]) (.enu (.var 0)) l4_1, .ret (.o2 .eq (.var 1) (.o1 .len (.var 0)))]
def cf4 : CF := ⟨1, 6, [0], b4⟩

def q5_0 : CE := .lc (.call 3 [(.var 1), (.o1 .len (.var 0))]) (.nm 1) (.seq (.var 0)) [] [1]
def b5 : List CS := [.ite (.not_ (.call 1 [(.var 0), (.cst (.int 1)), (.cst (.int 300))])) [.ret (.cst (.bool false))] [], .ret (.and_ (.o1 .all_ q5_0) (.call 4 [(.var 0)]))]
def cf5 : CF := ⟨1, 2, [0], b5⟩

def q6_0 : CE := .lc (.var 1) (.tp [(.nm 1), (.nm 2)]) (.enu (.var 0)) [(.o2 .eq (.var 2) (.tup []))] [1, 2]
def b6 : List CS := [.ret (.o1 .tuple_ q6_0)]
def cf6 : CF := ⟨1, 3, [0], b6⟩

def t7_0 : CE := (.o2 .ne (.var 3) (.lst []))
def l7_1 : List CS := [.ite (.o2 .notin (.var 7) (.var 2)) [.sto 2 (.var 7) (.o2 .add (.o2 .idx (.var 2) (.var 5)) (.tup [(.var 6)])), .apd 4 (.var 7)] []]
def l7_2 : List CS := [.for_ (.tp [(.nm 6), (.nm 7)]) (.seq (.o2 .idx (.var 0) (.var 5))) l7_1]
def l7_3 : List CS := [.asg 4 (.lst []), .for_ (.nm 5) (.seq (.var 3)) l7_2, .asg 3 (.var 4)]
def b7 : List CS := [.par [2, 3] [(.dct [(.var 1), (.tup [])]), (.lst [(.var 1)])], .whl t7_0 l7_3, .ret (.var 2)]
def cf7 : CF := ⟨2, 8, [0, 1], b7⟩

def b8 : List CS := [.ite (.not_ (.call 5 [(.var 0)])) [.rai 8] []]
def cf8 : CF := ⟨1, 1, [0], b8⟩

def b9 : List CS := [.exp (.call 8 [(.var 0)]), .ite (.not_ (.call 0 [(.var 1), (.cst (.int 0)), (.o2 .sub (.o1 .len (.var 0)) (.cst (.int 1)))])) [.rai 1] []]
def cf9 : CF := ⟨2, 2, [0, 1], b9⟩

def b10 : List CS := [.exp (.call 8 [(.var 0)]), .ret (.call 6 [(.var 0)])]
def cf10 : CF := ⟨1, 1, [0], b10⟩

def b11 : List CS := [.ret (.o1 .tuple_ (.o1 .sorted_ (.call 7 [(.var 0), (.var 1)])))]
def cf11 : CF := ⟨2, 2, [0, 1], b11⟩

def q12_0 : CE := .lc (.call 11 [(.var 0), (.var 2)]) (.nm 2) (.rng (.o1 .len (.var 0))) [] [2]
def q12_1 : CE := .lc (.o2 .eq (.o2 .idx (.var 1) (.var 2)) (.var 3)) (.nm 2) (.seq (.var 3)) [] [2]
def q12_2 : CE := .lc (.var 3) (.nm 3) (.seq (.var 1)) [(.o1 .all_ q12_1)] [3]
def b12 : List CS := [.asg 1 q12_0, .ret (.o1 .tuple_ (.o1 .sset q12_2))]
def cf12 : CF := ⟨1, 4, [0], b12⟩

def b13 : List CS := [.exp (.call 8 [(.var 0)]), .ret (.call 12 [(.var 0)])]
def cf13 : CF := ⟨1, 1, [0], b13⟩

def b14 : List CS := [.exp (.call 9 [(.var 0), (.var 1)]), .ret (.call 11 [(.var 0), (.var 1)])]
def cf14 : CF := ⟨2, 2, [0, 1], b14⟩

def b15 : List CS := [.exp (.call 8 [(.var 0)]), .asg 1 (.call 12 [(.var 0)]), .ret (.and_ (.o2 .eq (.o1 .len (.var 1)) (.cst (.int 1))) (.o2 .eq (.o1 .len (.o2 .idx (.var 1) (.cst (.int 0)))) (.cst (.int 1))))]
def cf15 : CF := ⟨1, 2, [0], b15⟩

def b16 : List CS := [.asg 1 (.o1 .abs (.o2 .idx (.o2 .add (.o1 .list_ (.var 0)) (.lst [(.cst (.int 0))])) (.cst (.int 0)))), .ret (.lst [(.ite (.o2 .ge (.var 1) (.o2 .pow (.cst (.int 10)) (.cst (.int 18)))) (.o2 .fdiv (.var 1) (.cst (.int 79))) (.cst (.int 0))), (.o2 .add (.o2 .mod (.o1 .int_ (.o2 .add (.o2 .mul (.var 1) (.cst (.int 293))) (.cst (.int 2699)))) (.cst (.int 2077503137))) (.cst (.int 179)))])]
def cf16 : CF := ⟨1, 2, [0], b16⟩

def b17 : List CS := [.ite (.o2 .gt (.o2 .idx (.var 0) (.cst (.int 0))) (.cst (.int 0))) [.asg 2 (.o2 .mod (.o1 .int_ (.o2 .idx (.var 0) (.cst (.int 0)))) (.var 1)), .sto 0 (.cst (.int 0)) (.o2 .fdiv (.o2 .idx (.var 0) (.cst (.int 0))) (.var 1)), .ret (.var 2)] [], .sto 0 (.cst (.int 1)) (.o2 .mod (.o1 .int_ (.o2 .add (.o2 .mul (.o2 .idx (.var 0) (.cst (.int 1))) (.cst (.int 31079))) (.cst (.int 8017)))) (.cst (.int 2147483543))), .asg 3 (.o2 .mod (.o1 .int_ (.o2 .mul (.o2 .idx (.var 0) (.cst (.int 1))) (.o2 .add (.o2 .idx (.var 0) (.cst (.int 1))) (.cst (.int 241))))) (.cst (.int 2147483587))), .ret (.o2 .mod (.o1 .int_ (.o2 .fdiv (.var 3) (.cst (.int 829)))) (.var 1))]
def cf17 : CF := ⟨2, 4, [0, 1], b17⟩

def b18 : List CS := [.ret (.o2 .idx (.var 1) (.call 17 [(.var 0), (.o1 .len (.var 1))]))]
def cf18 : CF := ⟨2, 2, [0, 1], b18⟩

def q19_0 : CE := .lc (.call 17 [(.var 0), (.cst (.int 16))]) (.nm 5) (.rng (.call 18 [(.var 0), (.lst [(.cst (.int 0)), (.cst (.int 1)), (.cst (.int 1)), (.cst (.int 2)), (.cst (.int 3))])])) [] [5]
def q19_1 : CE := .lc (.tup [(.var 7), (.o2 .add (.var 6) (.call 17 [(.var 0), (.o2 .sub (.var 1) (.var 6))]))]) (.nm 7) (.seq (.var 4)) [] [7]
def l19_2 : List CS := [.asg 4 (.o1 .sset q19_0), .asg 6 (.ite (.and_ (.o2 .gt (.call 17 [(.var 0), (.cst (.int 3))]) (.cst (.int 0))) (.o2 .lt (.o2 .add (.var 3) (.cst (.int 1))) (.var 1))) (.o2 .add (.var 3) (.cst (.int 1))) (.cst (.int 0))), .apd 2 q19_1]
def t19_3 : CE := (.o2 .lt (.o1 .len (.var 9)) (.o1 .len (.var 8)))
def l19_4 : List CS := [.asg 8 (.o2 .add (.var 8) (.ite (.o2 .notin (.var 10) (.var 8)) (.lst [(.var 10)]) (.lst [])))]
def q19_5 : CE := .lc (.tup [(.var 7), (.ixo (.var 8) (.var 10))]) (.tp [(.nm 7), (.nm 10)]) (.seq (.o2 .idx (.var 2) (.o2 .idx (.var 8) (.o1 .len (.var 9))))) [] [7, 10]
def l19_6 : List CS := [.for_ (.tp [(.nm 7), (.nm 10)]) (.seq (.o2 .idx (.var 2) (.o2 .idx (.var 8) (.o1 .len (.var 9))))) l19_4, .apd 9 (.o1 .tuple_ q19_5)]
def b19 : List CS := [.asg 2 (.lst []), .for_ (.nm 3) (.rng (.var 1)) l19_2, .par [8, 9] [(.lst [(.cst (.int 0))]), (.lst [])], .whl t19_3 l19_6, .ret (.o1 .tuple_ (.var 9))]
def cf19 : CF := ⟨2, 11, [0, 1], b19⟩

def q20_0 : CE := .lc (.var 6) (.tp [(.nm 5), (.nm 6)]) (.seq (.o2 .idx (.var 0) (.var 4))) [(.o2 .notin (.var 6) (.var 2))] [5, 6]
def l20_1 : List CS := [.asg 2 (.o2 .add (.var 2) q20_0), .asg 2 (.o1 .sset (.var 2))]
def l20_2 : List CS := [.for_ (.nm 4) (.seq (.o1 .list_ (.var 2))) l20_1]
def b20 : List CS := [.asg 2 (.lst [(.var 1)]), .for_ (.nm 3) (.rng (.o1 .len (.var 0))) l20_2, .ret (.o1 .tuple_ (.o1 .sorted_ (.var 2)))]
def cf20 : CF := ⟨2, 7, [0, 1], b20⟩

-- none 21
def cf21 : CF := ⟨0, 0, [], [.brk]⟩
def q22_0 : CE := .lc (.call 20 [(.var 3), (.var 6)]) (.nm 6) (.seq (.var 4)) [] [6]
def q22_1 : CE := .lc (.cst (.int 1)) (.nm 6) (.seq (.var 8)) [(.o2 .ne (.o2 .idx (.var 5) (.var 6)) (.var 8))] [6]
def q22_2 : CE := .lc (.var 8) (.nm 8) (.seq (.var 5)) [(.o2 .eq q22_1 (.lst []))] [8]
def q22_3 : CE := .lc (.var 6) (.nm 6) (.seq (.var 4)) [(.o2 .ne (.call 14 [(.var 3), (.var 6)]) (.o2 .idx (.var 5) (.var 6)))] [6]
def q22_4 : CE := .lc (.cst (.int 1)) (.nm 9) (.seq (.call 13 [(.var 3)])) [(.o2 .isin (.o2 .idx (.var 9) (.cst (.int 0))) (.o2 .idx (.var 5) (.var 6)))] [9]
def q22_5 : CE := .lc (.var 6) (.nm 6) (.seq (.var 4)) [(.o2 .eq q22_4 (.lst []))] [6]
def q22_6 : CE := .lc (.var 6) (.nm 6) (.seq (.call 10 [(.var 3)])) [(.o2 .notin (.tup [(.var 6)]) (.var 7))] [6]
def q22_7 : CE := .lc (.var 9) (.nm 9) (.seq (.var 7)) [(.o2 .isin (.var 11) (.var 9))] [9]
def l22_8 : List CS := [.ite (.o2 .ne (.o2 .idx (.var 3) (.var 11)) (.tup [])) [.asg 11 (.o2 .idx (.call 18 [(.var 1), (.o2 .idx (.var 3) (.var 11))]) (.cst (.int 1)))] [], .asg 14 q22_7, .ite (.and_ (.o1 (.notC .none) (.var 12)) (.o2 .ne (.var 14) (.var 12))) [.ret (.cst (.bool false))] [], .asg 12 (.ite (.o2 .ne (.var 14) (.lst [])) (.var 14) (.var 12))]
def l22_9 : List CS := [.asg 3 (.call 19 [(.var 1), (.o2 .add (.cst (.int 1)) (.call 17 [(.var 1), (.cst (.int 7))]))]), .asg 4 (.o1 .lrng (.o1 .len (.var 3))), .asg 5 q22_0, .asg 7 (.o1 .tuple_ (.o1 .sset q22_2)), .ite (.or_ (.o2 .ne (.call 13 [(.var 3)]) (.var 7)) (.o2 .ne q22_3 (.lst []))) [.ret (.cst (.bool false))] [], .ite (.o2 .ne q22_5 (.lst [])) [.ret (.cst (.bool false))] [], .asg 10 (.call 15 [(.var 3)]), .ite (.or_ (.not_ (.o1 .isB (.var 10))) (.o2 .ne (.var 10) (.and_ (.o2 .eq (.o1 .len (.var 7)) (.cst (.int 1))) (.o2 .eq (.o1 .len (.o2 .idx (.var 7) (.cst (.int 0)))) (.cst (.int 1)))))) [.ret (.cst (.bool false))] [], .ite (.o2 .ne q22_6 (.lst [])) [.ret (.cst (.bool false))] [], .par [11, 12] [(.cst (.int 0)), (.cst .none)], .for_ (.nm 13) (.rng (.cst (.int 20))) l22_8]
def q22_10 : CE := .lc (.grd 21 (.call 13 [(.var 18)])) (.nm 18) (.seq (.tup [(.cst .none), (.tup [(.tup []), (.tup [])])])) [] [18]
def q22_11 : CE := .lc (.grd 21 (.call 15 [(.var 18)])) (.nm 18) (.seq (.tup [(.tup []), (.tup [(.tup [(.tup [(.cst (.int 0)), (.cst (.int 2))])])])])) [] [18]
def q22_12 : CE := .lc (.grd 21 (.call 14 [(.var 15), (.var 18)])) (.nm 18) (.seq (.tup [(.cst (.int 4)), (.cst .none), (.cst (.bool false))])) [] [18]
def b22 : List CS := [.asg 1 (.call 16 [(.var 0)]), .for_ (.nm 2) (.rng (.cst (.int 3))) l22_9, .asg 15 (.tup [(.tup [(.tup [(.cst (.int 0)), (.cst (.int 1))]), (.tup [(.cst (.int 3)), (.cst (.int 2))])]), (.tup [(.tup [(.cst (.int 3)), (.cst (.int 3))])]), (.tup [(.tup [(.cst (.int 0)), (.cst (.int 3))]), (.tup [(.cst (.int 5)), (.cst (.int 0))])]), (.tup [])]), .asg 16 (.tup [(.tup [(.tup [(.cst (.int 1)), (.cst (.int 1))])]), (.tup [(.tup [(.cst (.int 2)), (.cst (.int 0))])])]), .ite (.or_ (.o2 .ne (.call 13 [(.var 15)]) (.tup [(.tup [(.cst (.int 3))])])) (.or_ (.o2 .ne (.call 14 [(.var 15), (.cst (.int 1))]) (.tup [(.cst (.int 1)), (.cst (.int 3))])) (.o1 (.notC (.bool true)) (.call 15 [(.var 15)])))) [.ret (.cst (.bool false))] [], .ite (.or_ (.o1 (.notC (.bool false)) (.call 15 [(.var 16)])) (.or_ (.o2 .ne (.call 13 [(.var 16)]) (.tup [(.tup [(.cst (.int 0)), (.cst (.int 1))])])) (.o2 .ne (.call 13 [(.tup [(.tup [(.tup [(.cst (.int 0)), (.cst (.int 0))])])])]) (.tup [(.tup [(.cst (.int 0))])])))) [.ret (.cst (.bool false))] [], .ite (.o2 .ne (.call 13 [(.tup [(.tup [(.tup [(.cst (.int 0)), (.cst (.int 1))]), (.tup [(.cst (.int 1)), (.cst (.int 2))])]), (.tup []), (.tup [])])]) (.tup [(.tup [(.cst (.int 1))]), (.tup [(.cst (.int 2))])])) [.ret (.cst (.bool false))] [], .asg 17 q22_10, .asg 17 (.o2 .add (.var 17) q22_11), .asg 17 (.o2 .add (.var 17) q22_12), .apd 17 (.grd 21 (.call 14 [(.tup []), (.cst .none)])), .ret (.o2 .eq (.var 17) (.o2 .add (.o2 .add (.o2 .mul (.lst [(.cst (.str "moves"))]) (.cst (.int 4))) (.o2 .mul (.lst [(.cst (.str "number"))]) (.cst (.int 3)))) (.lst [(.cst (.str "moves"))])))]
def cf22 : CF := ⟨1, 19, [0], b22⟩


def above : List (List Nat) := [[0], [1, 0], [2, 0], [3, 0], [4, 0], [5, 0], [6, 0], [7, 0], [8, 0]]
def subB (a b : Nat) : Bool := (above.getD a []).contains b
def guards : List (Nat × Guard) := [(21, ⟨[(4, .none), (2, (.str "settings")), (7, (.str "ground")), (5, (.str "held")), (6, (.str "order")), (8, (.str "moves")), (1, (.str "number")), (3, (.str "message")), (0, (.str "other"))], (.str "")⟩)]
def P : Prog := ⟨[cf0, cf1, cf2, cf3, cf4, cf5, cf6, cf7, cf8, cf9, cf10, cf11, cf12, cf13, cf14, cf15, cf16, cf17, cf18, cf19, cf20, cf21, cf22], subB, guards, 1000000⟩
end Core.C65
end

section
set_option linter.all false
set_option autoImplicit false
set_option maxRecDepth 100000
namespace Core
open PySem PySem.W
theorem ctx_callf (P : Prog) (f : Nat → List Sl → FO) : (P.ctx f).callf = f := rfl
theorem ctx_io (P : Prog) (f : Nat → List Sl → FO) : (P.ctx f).io = P.io := rfl
theorem ctx_turns (P : Prog) (f : Nat → List Sl → FO) : (P.ctx f).turns = P.turns := rfl
theorem pyEq_int (i j : Int) : pyEq (.int i) (.int j) = some (decide (i = j)) := by
  simp [pyEq, okD, dep, PyData.eqv]
  rw [Bool.eq_iff_iff]
  simp
theorem pyLt_int (i j : Int) : pyLt (.int i) (.int j) = some (decide (i < j)) := rfl
end Core
namespace Core
open PySem PySem.W
namespace C65
@[simp] theorem io_0_0 : P.io 0 0 = true := rfl
@[simp] theorem io_0_1 : P.io 0 1 = true := rfl
@[simp] theorem io_0_2 : P.io 0 2 = true := rfl
@[simp] theorem io_1_0 : P.io 1 0 = true := rfl
@[simp] theorem io_1_1 : P.io 1 1 = true := rfl
@[simp] theorem io_1_2 : P.io 1 2 = true := rfl
@[simp] theorem io_2_0 : P.io 2 0 = true := rfl
@[simp] theorem io_3_0 : P.io 3 0 = true := rfl
@[simp] theorem io_3_1 : P.io 3 1 = true := rfl
@[simp] theorem io_4_0 : P.io 4 0 = true := rfl
@[simp] theorem io_5_0 : P.io 5 0 = true := rfl
@[simp] theorem io_6_0 : P.io 6 0 = true := rfl
@[simp] theorem io_7_0 : P.io 7 0 = true := rfl
@[simp] theorem io_7_1 : P.io 7 1 = true := rfl
@[simp] theorem io_8_0 : P.io 8 0 = true := rfl
@[simp] theorem io_9_0 : P.io 9 0 = true := rfl
@[simp] theorem io_9_1 : P.io 9 1 = true := rfl
@[simp] theorem io_10_0 : P.io 10 0 = true := rfl
@[simp] theorem io_11_0 : P.io 11 0 = true := rfl
@[simp] theorem io_11_1 : P.io 11 1 = true := rfl
@[simp] theorem io_12_0 : P.io 12 0 = true := rfl
@[simp] theorem io_13_0 : P.io 13 0 = true := rfl
@[simp] theorem io_14_0 : P.io 14 0 = true := rfl
@[simp] theorem io_14_1 : P.io 14 1 = true := rfl
@[simp] theorem io_15_0 : P.io 15 0 = true := rfl
@[simp] theorem io_16_0 : P.io 16 0 = true := rfl
@[simp] theorem io_17_0 : P.io 17 0 = true := rfl
@[simp] theorem io_17_1 : P.io 17 1 = true := rfl
@[simp] theorem io_18_0 : P.io 18 0 = true := rfl
@[simp] theorem io_18_1 : P.io 18 1 = true := rfl
@[simp] theorem io_19_0 : P.io 19 0 = true := rfl
@[simp] theorem io_19_1 : P.io 19 1 = true := rfl
@[simp] theorem io_20_0 : P.io 20 0 = true := rfl
@[simp] theorem io_20_1 : P.io 20 1 = true := rfl
@[simp] theorem io_22_0 : P.io 22 0 = true := rfl
/-- is_whole -/
def pWhole (d : D) (lo hi : Int) : Bool := match d with
  | .int i => decide (lo ≤ i) && decide (i ≤ hi)
  | _ => false
theorem f0 (k : Nat) (d : D) (lo hi : Int) : callK P (k + 1) 0 [.v d, .v (.int lo), .v (.int hi)] = .ok (.bool (pWhole d lo hi)) false [.v d, .v (.int lo), .v (.int hi)] := by
  rw [callK_eq (cf := cf0) rfl rfl]
  cases d <;> simp [-List.map_map, Core.pyEq_int, Core.pyLt_int, Core.evSs, Core.evS.eq_1, Core.evS.eq_2, Core.evS.eq_3, Core.evS.eq_4, Core.evS.eq_5, Core.evS.eq_6, Core.evS.eq_7, Core.evS.eq_10, Core.evS.eq_11, Core.evS.eq_12, Core.evS.eq_13, Core.evS.eq_14, Core.evS.eq_15, Core.evE.eq_1, Core.evE.eq_2, Core.evE.eq_3, Core.evE.eq_4, Core.evE.eq_5, Core.evE.eq_6, Core.evE.eq_7, Core.evE.eq_8, Core.evE.eq_9, Core.evE.eq_10, Core.evE.eq_11, Core.evE.eq_12, Core.evE.eq_13, Core.evE.eq_14, Core.evE.eq_15, Core.evE.eq_16, Core.evEs, Core.evRs, Core.evC, Core.evI, Core.evT, Core.evV, Core.evHolds, Core.setAll, Core.Out.bind, Core.Out.ofO, Core.hold, Core.frz, Core.peek, Core.mk, Core.isLst, Core.isB, Core.do1, Core.do2, Core.doSl, Core.partD, Core.dupFree, Core.bors, Core.isOwn, Core.passArgs, Core.backArgs, Core.ctx_callf, Core.ctx_io, Core.ctx_turns, Core.finish, Core.handBack, Core.outPs, Core.entry, Core.bindT, Core.bindTs, Core.wipe, Core.back, Core.walkItems, Core.bound, Core.boolsOf, cf0, b0, pWhole]
  rename_i i
  by_cases h : lo ≤ i <;> simp [h, pWhole]

def pTupN (d : D) (lo hi : Int) : Bool := match d with
  | .tuple xs => decide (lo ≤ xs.length) && decide ((xs.length : Int) ≤ hi)
  | _ => false
theorem f1 (k : Nat) (d : D) (lo hi : Int) : callK P (k + 1) 1 [.v d, .v (.int lo), .v (.int hi)] = .ok (.bool (pTupN d lo hi)) false [.v d, .v (.int lo), .v (.int hi)] := by
  rw [callK_eq (cf := cf1) rfl rfl]
  cases d <;> simp [-List.map_map, Core.pyEq_int, Core.pyLt_int, Core.evSs, Core.evS.eq_1, Core.evS.eq_2, Core.evS.eq_3, Core.evS.eq_4, Core.evS.eq_5, Core.evS.eq_6, Core.evS.eq_7, Core.evS.eq_10, Core.evS.eq_11, Core.evS.eq_12, Core.evS.eq_13, Core.evS.eq_14, Core.evS.eq_15, Core.evE.eq_1, Core.evE.eq_2, Core.evE.eq_3, Core.evE.eq_4, Core.evE.eq_5, Core.evE.eq_6, Core.evE.eq_7, Core.evE.eq_8, Core.evE.eq_9, Core.evE.eq_10, Core.evE.eq_11, Core.evE.eq_12, Core.evE.eq_13, Core.evE.eq_14, Core.evE.eq_15, Core.evE.eq_16, Core.evEs, Core.evRs, Core.evC, Core.evI, Core.evT, Core.evV, Core.evHolds, Core.setAll, Core.Out.bind, Core.Out.ofO, Core.hold, Core.frz, Core.peek, Core.mk, Core.isLst, Core.isB, Core.do1, Core.do2, Core.doSl, Core.partD, Core.dupFree, Core.bors, Core.isOwn, Core.passArgs, Core.backArgs, Core.ctx_callf, Core.ctx_io, Core.ctx_turns, Core.finish, Core.handBack, Core.outPs, Core.entry, Core.bindT, Core.bindTs, Core.wipe, Core.back, Core.walkItems, Core.bound, Core.boolsOf, cf1, b1, pTupN]
  rename_i xs
  by_cases h : lo ≤ (xs.length : Int) <;> simp [h]
theorem f1o (k : Nat) (ys : List D) (lo hi : Int) : callK P (k + 1) 1 [.o ys, .v (.int lo), .v (.int hi)] = .ok (.bool false) false [.o ys, .v (.int lo), .v (.int hi)] := by
  rw [callK_eq (cf := cf1) rfl rfl]
  simp [-List.map_map, Core.pyEq_int, Core.pyLt_int, Core.evSs, Core.evS.eq_1, Core.evS.eq_2, Core.evS.eq_3, Core.evS.eq_4, Core.evS.eq_5, Core.evS.eq_6, Core.evS.eq_7, Core.evS.eq_10, Core.evS.eq_11, Core.evS.eq_12, Core.evS.eq_13, Core.evS.eq_14, Core.evS.eq_15, Core.evE.eq_1, Core.evE.eq_2, Core.evE.eq_3, Core.evE.eq_4, Core.evE.eq_5, Core.evE.eq_6, Core.evE.eq_7, Core.evE.eq_8, Core.evE.eq_9, Core.evE.eq_10, Core.evE.eq_11, Core.evE.eq_12, Core.evE.eq_13, Core.evE.eq_14, Core.evE.eq_15, Core.evE.eq_16, Core.evEs, Core.evRs, Core.evC, Core.evI, Core.evT, Core.evV, Core.evHolds, Core.setAll, Core.Out.bind, Core.Out.ofO, Core.hold, Core.frz, Core.peek, Core.mk, Core.isLst, Core.isB, Core.do1, Core.do2, Core.doSl, Core.partD, Core.dupFree, Core.bors, Core.isOwn, Core.passArgs, Core.backArgs, Core.ctx_callf, Core.ctx_io, Core.ctx_turns, Core.finish, Core.handBack, Core.outPs, Core.entry, Core.bindT, Core.bindTs, Core.wipe, Core.back, Core.walkItems, Core.bound, Core.boolsOf, cf1, b1, pTupN]
def asc : List Int → Bool
  | x :: y :: r => decide (x < y) && asc (y :: r)
  | _ => true
def ltP (p : D) : D := match p with
  | .tuple [.int a, .int b] => .bool (decide (a < b))
  | _ => .none
def ltL (ns : List Int) : List Bool := List.zipWith (fun a b => decide (a < b)) ns (ns.drop 1)
theorem zip_asc : ∀ (ns : List Int), (zipD (ns.map PyData.int) ((ns.map PyData.int).drop 1)).map ltP = (ltL ns).map PyData.bool
  | [] => rfl
  | [x] => rfl
  | x :: y :: r => by
    have ih := zip_asc (y :: r)
    simp [zipD, ltP, ltL] at ih ⊢
    exact ih
theorem bools_map : ∀ (bs : List Bool), boolsOf (bs.map PyData.bool) = some bs
  | [] => rfl
  | b :: bs => by simp [boolsOf, bools_map bs]
theorem asc_all : ∀ (ns : List Int), (ltL ns).all id = asc ns
  | [] => rfl
  | [x] => rfl
  | x :: y :: r => by
    have ih := asc_all (y :: r)
    simp [asc, ltL] at ih ⊢
    rw [ih]
theorem zip_pair : ∀ {xs ys : List D} {p : D}, p ∈ zipD xs ys → ∃ x y, x ∈ xs ∧ y ∈ ys ∧ p = .tuple [x, y]
  | [], _, p, h => by simp [zipD] at h
  | _ :: _, [], p, h => by simp [zipD] at h
  | x :: xs, y :: ys, p, h => by
    rw [zipD, List.mem_cons] at h
    rcases h with rfl | h
    · exact ⟨x, y, List.mem_cons_self, List.mem_cons_self, rfl⟩
    · obtain ⟨a, b, h1, h2, h3⟩ := zip_pair h
      exact ⟨a, b, List.mem_cons_of_mem _ h1, List.mem_cons_of_mem _ h2, h3⟩
theorem f2 (k : Nat) (ns : List Int) : callK P (k + 1) 2 [.v (.tuple (ns.map PyData.int))] = .ok (.bool (asc ns)) false [.v (.tuple (ns.map PyData.int))] := by
  have e1 : cut (ns.map PyData.int) (some 1) none = (ns.map PyData.int).drop 1 := by
    unfold cut sIx
    cases ns <;> simp [List.take_of_length_le]
  have h : evE (P.ctx (callK P k)) q2_0 [.v (.tuple (ns.map PyData.int)), .no, .no] = .ok (.n (.list ((ltL ns).map PyData.bool))) [.v (.tuple (ns.map PyData.int)), .no, .no] := by
    refine lc_map ltP (xs := zipD (ns.map PyData.int) ((ns.map PyData.int).drop 1)) (env1 := [.v (.tuple (ns.map PyData.int)), .no, .no]) ?_ (fun x hx => ?_) (zip_asc ns) rfl
    · simp [-List.map_map, Core.pyEq_int, Core.pyLt_int, Core.evSs, Core.evS.eq_1, Core.evS.eq_2, Core.evS.eq_3, Core.evS.eq_4, Core.evS.eq_5, Core.evS.eq_6, Core.evS.eq_7, Core.evS.eq_10, Core.evS.eq_11, Core.evS.eq_12, Core.evS.eq_13, Core.evS.eq_14, Core.evS.eq_15, Core.evE.eq_1, Core.evE.eq_2, Core.evE.eq_3, Core.evE.eq_4, Core.evE.eq_5, Core.evE.eq_6, Core.evE.eq_7, Core.evE.eq_8, Core.evE.eq_9, Core.evE.eq_10, Core.evE.eq_11, Core.evE.eq_12, Core.evE.eq_13, Core.evE.eq_14, Core.evE.eq_15, Core.evE.eq_16, Core.evEs, Core.evRs, Core.evC, Core.evI, Core.evT, Core.evV, Core.evHolds, Core.setAll, Core.Out.bind, Core.Out.ofO, Core.hold, Core.frz, Core.peek, Core.mk, Core.isLst, Core.isB, Core.do1, Core.do2, Core.doSl, Core.partD, Core.dupFree, Core.bors, Core.isOwn, Core.passArgs, Core.backArgs, Core.ctx_callf, Core.ctx_io, Core.ctx_turns, Core.finish, Core.handBack, Core.outPs, Core.entry, Core.bindT, Core.bindTs, Core.wipe, Core.back, Core.walkItems, Core.bound, Core.boolsOf, e1]
    · obtain ⟨a, b, h1, h2, rfl⟩ := zip_pair hx
      obtain ⟨i, _, rfl⟩ := List.mem_map.mp h1
      obtain ⟨j, _, rfl⟩ := List.mem_map.mp (List.mem_of_mem_drop h2)
      refine ⟨[.v (.tuple (ns.map PyData.int)), .v (.int i), .v (.int j)], rfl, ?_, rfl⟩
      simp [-List.map_map, Core.pyEq_int, Core.pyLt_int, Core.evSs, Core.evS.eq_1, Core.evS.eq_2, Core.evS.eq_3, Core.evS.eq_4, Core.evS.eq_5, Core.evS.eq_6, Core.evS.eq_7, Core.evS.eq_10, Core.evS.eq_11, Core.evS.eq_12, Core.evS.eq_13, Core.evS.eq_14, Core.evS.eq_15, Core.evE.eq_1, Core.evE.eq_2, Core.evE.eq_3, Core.evE.eq_4, Core.evE.eq_5, Core.evE.eq_6, Core.evE.eq_7, Core.evE.eq_8, Core.evE.eq_9, Core.evE.eq_10, Core.evE.eq_11, Core.evE.eq_12, Core.evE.eq_13, Core.evE.eq_14, Core.evE.eq_15, Core.evE.eq_16, Core.evEs, Core.evRs, Core.evC, Core.evI, Core.evT, Core.evV, Core.evHolds, Core.setAll, Core.Out.bind, Core.Out.ofO, Core.hold, Core.frz, Core.peek, Core.mk, Core.isLst, Core.isB, Core.do1, Core.do2, Core.doSl, Core.partD, Core.dupFree, Core.bors, Core.isOwn, Core.passArgs, Core.backArgs, Core.ctx_callf, Core.ctx_io, Core.ctx_turns, Core.finish, Core.handBack, Core.outPs, Core.entry, Core.bindT, Core.bindTs, Core.wipe, Core.back, Core.walkItems, Core.bound, Core.boolsOf, pyLt, ltP]
  rw [callK_eq (cf := cf2) rfl rfl]
  simp [-List.map_map, Core.pyEq_int, Core.pyLt_int, Core.evSs, Core.evS.eq_1, Core.evS.eq_2, Core.evS.eq_3, Core.evS.eq_4, Core.evS.eq_5, Core.evS.eq_6, Core.evS.eq_7, Core.evS.eq_10, Core.evS.eq_11, Core.evS.eq_12, Core.evS.eq_13, Core.evS.eq_14, Core.evS.eq_15, Core.evE.eq_1, Core.evE.eq_2, Core.evE.eq_3, Core.evE.eq_4, Core.evE.eq_5, Core.evE.eq_6, Core.evE.eq_7, Core.evE.eq_8, Core.evE.eq_9, Core.evE.eq_10, Core.evE.eq_11, Core.evE.eq_12, Core.evE.eq_13, Core.evE.eq_14, Core.evE.eq_15, Core.evE.eq_16, Core.evEs, Core.evRs, Core.evC, Core.evI, Core.evT, Core.evV, Core.evHolds, Core.setAll, Core.Out.bind, Core.Out.ofO, Core.hold, Core.frz, Core.peek, Core.mk, Core.isLst, Core.isB, Core.do1, Core.do2, Core.doSl, Core.partD, Core.dupFree, Core.bors, Core.isOwn, Core.passArgs, Core.backArgs, Core.ctx_callf, Core.ctx_io, Core.ctx_turns, Core.finish, Core.handBack, Core.outPs, Core.entry, Core.bindT, Core.bindTs, Core.wipe, Core.back, Core.walkItems, Core.bound, Core.boolsOf, cf2, b2, h, bools_map, ← asc_all]
/-! ### rows of moves -/
def encP (p : Nat × Nat) : D := .tuple [.int (p.1 : Int), .int (p.2 : Int)]
def encR (r : List (Nat × Nat)) : D := .tuple (r.map encP)
def encM (ms : List (List (Nat × Nat))) : D := .tuple (ms.map encR)
def RowOk (n : Nat) (r : List (Nat × Nat)) : Prop := r.length ≤ 16 ∧ (∀ p ∈ r, p.1 ≤ 15 ∧ p.2 < n) ∧ asc (r.map fun p => (p.1 : Int)) = true
theorem encP_inj {p q : Nat × Nat} (h : encP p = encP q) : p = q := by
  unfold encP at h
  simp only [PyData.tuple.injEq, List.cons.injEq, and_true, PyData.int.injEq] at h
  exact Prod.ext (by omega) (by omega)
theorem map_inj {α β : Type} {f : α → β} (hf : ∀ x y, f x = f y → x = y) : ∀ {xs ys : List α}, xs.map f = ys.map f → xs = ys
  | [], [], _ => rfl
  | [], _ :: _, h => by simp at h
  | _ :: _, [], h => by simp at h
  | x :: xs, y :: ys, h => by
    rw [List.map_cons, List.map_cons, List.cons.injEq] at h
    rw [hf _ _ h.1, map_inj hf h.2]
theorem encR_inj {p q : List (Nat × Nat)} (h : encR p = encR q) : p = q := map_inj (fun _ _ => encP_inj) (PyData.tuple.inj h)
theorem encM_inj {p q : List (List (Nat × Nat))} (h : encM p = encM q) : p = q := map_inj (fun _ _ => encR_inj) (PyData.tuple.inj h)
theorem all_bools {α : Type} (f : α → Bool) (xs : List α) : (xs.map f).all id = xs.all f := by
  rw [List.all_map]
  rfl
theorem tup2 {d : D} (h : pTupN d 2 2 = true) : ∃ a b, d = .tuple [a, b] := by
  unfold pTupN at h
  split at h
  · rename_i xs
    simp only [Bool.and_eq_true, decide_eq_true_eq] at h
    match xs, h with
    | [a, b], _ => exact ⟨a, b, rfl⟩
    | [], h => simp at h
    | [_], h => simp at h
    | _ :: _ :: _ :: _, h => simp at h; omega
  · cases h
theorem tups2 : ∀ {xs : List D}, xs.all (fun d => pTupN d 2 2) = true → ∃ ps : List (D × D), xs = ps.map fun p => .tuple [p.1, p.2]
  | [], _ => ⟨[], rfl⟩
  | x :: xs, h => by
    rw [List.all_cons, Bool.and_eq_true] at h
    obtain ⟨a, b, rfl⟩ := tup2 h.1
    obtain ⟨ps, rfl⟩ := tups2 h.2
    exact ⟨(a, b) :: ps, rfl⟩
theorem whole_ok {d : D} {lo hi : Int} (h : pWhole d lo hi = true) : ∃ i, d = .int i ∧ lo ≤ i ∧ i ≤ hi := by
  unfold pWhole at h
  split at h
  · simp only [Bool.and_eq_true, decide_eq_true_eq] at h
    exact ⟨_, rfl, h⟩
  · cases h
def pPair (n : Int) (p : D × D) : Bool := pWhole p.1 0 15 && pWhole p.2 0 (n - 1)
theorem pairs_ok {n : Nat} : ∀ {ps : List (D × D)}, ps.all (pPair n) = true → ∃ r : List (Nat × Nat), (ps.map fun p => PyData.tuple [p.1, p.2]) = r.map encP ∧ (∀ p ∈ r, p.1 ≤ 15 ∧ p.2 < n)
  | [], _ => ⟨[], rfl, fun _ h => by cases h⟩
  | (x, y) :: ps, h => by
    rw [List.all_cons, Bool.and_eq_true] at h
    obtain ⟨h1, h2⟩ := h
    unfold pPair at h1
    rw [Bool.and_eq_true] at h1
    obtain ⟨i, e1, i1, i2⟩ := whole_ok h1.1
    obtain ⟨j, e2, j1, j2⟩ := whole_ok h1.2
    obtain ⟨r, e3, h3⟩ := pairs_ok h2
    dsimp only at e1 e2
    subst e1 e2
    refine ⟨(i.toNat, j.toNat) :: r, ?_, fun p hp => ?_⟩
    · rw [List.map_cons, List.map_cons, e3]
      have q1 : ((i.toNat : Nat) : Int) = i := Int.toNat_of_nonneg i1
      have q2 : ((j.toNat : Nat) : Int) = j := Int.toNat_of_nonneg j1
      simp only [encP, q1, q2]
    · rcases List.mem_cons.mp hp with rfl | hp
      · dsimp only
        omega
      · exact h3 p hp
theorem f3 (k : Nat) (d : D) (n : Nat) : ∃ b, callK P (k + 2) 3 [.v d, .v (.int n)] = .ok (.bool b) false [.v d, .v (.int n)] ∧ (b = true ↔ ∃ r, RowOk n r ∧ d = encR r) := by
  rw [callK_eq (cf := cf3) rfl rfl]
  have hF : ∀ {o : FO} (h1 : o = .ok (.bool false) false [.v d, .v (.int n)]) (h2 : ∀ r, RowOk n r → d ≠ encR r), ∃ b, o = .ok (.bool b) false [.v d, .v (.int n)] ∧ (b = true ↔ ∃ r, RowOk n r ∧ d = encR r) :=
    fun h1 h2 => ⟨false, h1, ⟨(fun h => by cases h), fun ⟨r, h3, h4⟩ => (h2 r h3 h4).elim⟩⟩
  cases e1 : pTupN d 0 16 with
  | false =>
    refine hF ?_ fun r h3 h4 => ?_
    · simp [-List.map_map, Core.pyEq_int, Core.pyLt_int, Core.evSs, Core.evS.eq_1, Core.evS.eq_2, Core.evS.eq_3, Core.evS.eq_4, Core.evS.eq_5, Core.evS.eq_6, Core.evS.eq_7, Core.evS.eq_10, Core.evS.eq_11, Core.evS.eq_12, Core.evS.eq_13, Core.evS.eq_14, Core.evS.eq_15, Core.evE.eq_1, Core.evE.eq_2, Core.evE.eq_3, Core.evE.eq_4, Core.evE.eq_5, Core.evE.eq_6, Core.evE.eq_7, Core.evE.eq_8, Core.evE.eq_9, Core.evE.eq_10, Core.evE.eq_11, Core.evE.eq_12, Core.evE.eq_13, Core.evE.eq_14, Core.evE.eq_15, Core.evE.eq_16, Core.evEs, Core.evRs, Core.evC, Core.evI, Core.evT, Core.evV, Core.evHolds, Core.setAll, Core.Out.bind, Core.Out.ofO, Core.hold, Core.frz, Core.peek, Core.mk, Core.isLst, Core.isB, Core.do1, Core.do2, Core.doSl, Core.partD, Core.dupFree, Core.bors, Core.isOwn, Core.passArgs, Core.backArgs, Core.ctx_callf, Core.ctx_io, Core.ctx_turns, Core.finish, Core.handBack, Core.outPs, Core.entry, Core.bindT, Core.bindTs, Core.wipe, Core.back, Core.walkItems, Core.bound, Core.boolsOf, cf3, b3, f1, e1]
    · rw [h4] at e1
      have := h3.1
      simp [encR, pTupN] at e1
      omega
  | true =>
    have ⟨xs, hx⟩ : ∃ xs, d = .tuple xs := by
      unfold pTupN at e1
      split at e1
      · exact ⟨_, rfl⟩
      · cases e1
    subst hx
    have q0 : evE (P.ctx (callK P (k + 1))) q3_0 [.v (.tuple xs), .v (.int n), .no] = .ok (.n (.list ((xs.map fun d => pTupN d 2 2).map PyData.bool))) [.v (.tuple xs), .v (.int n), .no] := by
      refine lc_map (fun d => .bool (pTupN d 2 2)) (xs := xs) (env1 := [.v (.tuple xs), .v (.int n), .no]) ?_ (fun x hx => ?_) (by rw [List.map_map]; rfl) rfl
      · simp [-List.map_map, Core.pyEq_int, Core.pyLt_int, Core.evSs, Core.evS.eq_1, Core.evS.eq_2, Core.evS.eq_3, Core.evS.eq_4, Core.evS.eq_5, Core.evS.eq_6, Core.evS.eq_7, Core.evS.eq_10, Core.evS.eq_11, Core.evS.eq_12, Core.evS.eq_13, Core.evS.eq_14, Core.evS.eq_15, Core.evE.eq_1, Core.evE.eq_2, Core.evE.eq_3, Core.evE.eq_4, Core.evE.eq_5, Core.evE.eq_6, Core.evE.eq_7, Core.evE.eq_8, Core.evE.eq_9, Core.evE.eq_10, Core.evE.eq_11, Core.evE.eq_12, Core.evE.eq_13, Core.evE.eq_14, Core.evE.eq_15, Core.evE.eq_16, Core.evEs, Core.evRs, Core.evC, Core.evI, Core.evT, Core.evV, Core.evHolds, Core.setAll, Core.Out.bind, Core.Out.ofO, Core.hold, Core.frz, Core.peek, Core.mk, Core.isLst, Core.isB, Core.do1, Core.do2, Core.doSl, Core.partD, Core.dupFree, Core.bors, Core.isOwn, Core.passArgs, Core.backArgs, Core.ctx_callf, Core.ctx_io, Core.ctx_turns, Core.finish, Core.handBack, Core.outPs, Core.entry, Core.bindT, Core.bindTs, Core.wipe, Core.back, Core.walkItems, Core.bound, Core.boolsOf]
      · refine ⟨[.v (.tuple xs), .v (.int n), .v x], rfl, ?_, rfl⟩
        simp [-List.map_map, Core.pyEq_int, Core.pyLt_int, Core.evSs, Core.evS.eq_1, Core.evS.eq_2, Core.evS.eq_3, Core.evS.eq_4, Core.evS.eq_5, Core.evS.eq_6, Core.evS.eq_7, Core.evS.eq_10, Core.evS.eq_11, Core.evS.eq_12, Core.evS.eq_13, Core.evS.eq_14, Core.evS.eq_15, Core.evE.eq_1, Core.evE.eq_2, Core.evE.eq_3, Core.evE.eq_4, Core.evE.eq_5, Core.evE.eq_6, Core.evE.eq_7, Core.evE.eq_8, Core.evE.eq_9, Core.evE.eq_10, Core.evE.eq_11, Core.evE.eq_12, Core.evE.eq_13, Core.evE.eq_14, Core.evE.eq_15, Core.evE.eq_16, Core.evEs, Core.evRs, Core.evC, Core.evI, Core.evT, Core.evV, Core.evHolds, Core.setAll, Core.Out.bind, Core.Out.ofO, Core.hold, Core.frz, Core.peek, Core.mk, Core.isLst, Core.isB, Core.do1, Core.do2, Core.doSl, Core.partD, Core.dupFree, Core.bors, Core.isOwn, Core.passArgs, Core.backArgs, Core.ctx_callf, Core.ctx_io, Core.ctx_turns, Core.finish, Core.handBack, Core.outPs, Core.entry, Core.bindT, Core.bindTs, Core.wipe, Core.back, Core.walkItems, Core.bound, Core.boolsOf, f1]
    cases e2 : xs.all (fun d => pTupN d 2 2) with
    | false =>
      refine hF ?_ fun r h3 h4 => ?_
      · simp [-List.map_map, Core.pyEq_int, Core.pyLt_int, Core.evSs, Core.evS.eq_1, Core.evS.eq_2, Core.evS.eq_3, Core.evS.eq_4, Core.evS.eq_5, Core.evS.eq_6, Core.evS.eq_7, Core.evS.eq_10, Core.evS.eq_11, Core.evS.eq_12, Core.evS.eq_13, Core.evS.eq_14, Core.evS.eq_15, Core.evE.eq_1, Core.evE.eq_2, Core.evE.eq_3, Core.evE.eq_4, Core.evE.eq_5, Core.evE.eq_6, Core.evE.eq_7, Core.evE.eq_8, Core.evE.eq_9, Core.evE.eq_10, Core.evE.eq_11, Core.evE.eq_12, Core.evE.eq_13, Core.evE.eq_14, Core.evE.eq_15, Core.evE.eq_16, Core.evEs, Core.evRs, Core.evC, Core.evI, Core.evT, Core.evV, Core.evHolds, Core.setAll, Core.Out.bind, Core.Out.ofO, Core.hold, Core.frz, Core.peek, Core.mk, Core.isLst, Core.isB, Core.do1, Core.do2, Core.doSl, Core.partD, Core.dupFree, Core.bors, Core.isOwn, Core.passArgs, Core.backArgs, Core.ctx_callf, Core.ctx_io, Core.ctx_turns, Core.finish, Core.handBack, Core.outPs, Core.entry, Core.bindT, Core.bindTs, Core.wipe, Core.back, Core.walkItems, Core.bound, Core.boolsOf, cf3, b3, f1, e1, q0, bools_map, all_bools, e2]
      · cases h4
        rw [List.all_map, Bool.eq_false_iff] at e2
        exact e2 (List.all_eq_true.mpr fun p _ => rfl)
    | true =>
      obtain ⟨ps, hps⟩ := tups2 e2
      have q1 : evE (P.ctx (callK P (k + 1))) q3_1 [.v (.tuple xs), .v (.int n), .no] = .ok (.n (.list ((ps.map (pPair n)).map PyData.bool))) [.v (.tuple xs), .v (.int n), .no] := by
        refine lc_map (fun d => match d with | .tuple [a, b] => .bool (pPair n (a, b)) | _ => .none) (xs := xs) (env1 := [.v (.tuple xs), .v (.int n), .no]) ?_ (fun x hx => ?_) (by rw [hps, List.map_map, List.map_map]; rfl) rfl
        · simp [-List.map_map, Core.pyEq_int, Core.pyLt_int, Core.evSs, Core.evS.eq_1, Core.evS.eq_2, Core.evS.eq_3, Core.evS.eq_4, Core.evS.eq_5, Core.evS.eq_6, Core.evS.eq_7, Core.evS.eq_10, Core.evS.eq_11, Core.evS.eq_12, Core.evS.eq_13, Core.evS.eq_14, Core.evS.eq_15, Core.evE.eq_1, Core.evE.eq_2, Core.evE.eq_3, Core.evE.eq_4, Core.evE.eq_5, Core.evE.eq_6, Core.evE.eq_7, Core.evE.eq_8, Core.evE.eq_9, Core.evE.eq_10, Core.evE.eq_11, Core.evE.eq_12, Core.evE.eq_13, Core.evE.eq_14, Core.evE.eq_15, Core.evE.eq_16, Core.evEs, Core.evRs, Core.evC, Core.evI, Core.evT, Core.evV, Core.evHolds, Core.setAll, Core.Out.bind, Core.Out.ofO, Core.hold, Core.frz, Core.peek, Core.mk, Core.isLst, Core.isB, Core.do1, Core.do2, Core.doSl, Core.partD, Core.dupFree, Core.bors, Core.isOwn, Core.passArgs, Core.backArgs, Core.ctx_callf, Core.ctx_io, Core.ctx_turns, Core.finish, Core.handBack, Core.outPs, Core.entry, Core.bindT, Core.bindTs, Core.wipe, Core.back, Core.walkItems, Core.bound, Core.boolsOf]
        · rw [hps] at hx
          obtain ⟨⟨a, b⟩, _, rfl⟩ := List.mem_map.mp hx
          refine ⟨[.v (.tuple xs), .v (.int n), .v (.tuple [a, b])], rfl, ?_, rfl⟩
          simp [-List.map_map, Core.pyEq_int, Core.pyLt_int, Core.evSs, Core.evS.eq_1, Core.evS.eq_2, Core.evS.eq_3, Core.evS.eq_4, Core.evS.eq_5, Core.evS.eq_6, Core.evS.eq_7, Core.evS.eq_10, Core.evS.eq_11, Core.evS.eq_12, Core.evS.eq_13, Core.evS.eq_14, Core.evS.eq_15, Core.evE.eq_1, Core.evE.eq_2, Core.evE.eq_3, Core.evE.eq_4, Core.evE.eq_5, Core.evE.eq_6, Core.evE.eq_7, Core.evE.eq_8, Core.evE.eq_9, Core.evE.eq_10, Core.evE.eq_11, Core.evE.eq_12, Core.evE.eq_13, Core.evE.eq_14, Core.evE.eq_15, Core.evE.eq_16, Core.evEs, Core.evRs, Core.evC, Core.evI, Core.evT, Core.evV, Core.evHolds, Core.setAll, Core.Out.bind, Core.Out.ofO, Core.hold, Core.frz, Core.peek, Core.mk, Core.isLst, Core.isB, Core.do1, Core.do2, Core.doSl, Core.partD, Core.dupFree, Core.bors, Core.isOwn, Core.passArgs, Core.backArgs, Core.ctx_callf, Core.ctx_io, Core.ctx_turns, Core.finish, Core.handBack, Core.outPs, Core.entry, Core.bindT, Core.bindTs, Core.wipe, Core.back, Core.walkItems, Core.bound, Core.boolsOf, f0, atI, ixN, pPair]
          cases pWhole a 0 15 <;> simp [frz]
      cases e3 : ps.all (pPair n) with
      | false =>
        refine hF ?_ fun r h3 h4 => ?_
        · simp [-List.map_map, Core.pyEq_int, Core.pyLt_int, Core.evSs, Core.evS.eq_1, Core.evS.eq_2, Core.evS.eq_3, Core.evS.eq_4, Core.evS.eq_5, Core.evS.eq_6, Core.evS.eq_7, Core.evS.eq_10, Core.evS.eq_11, Core.evS.eq_12, Core.evS.eq_13, Core.evS.eq_14, Core.evS.eq_15, Core.evE.eq_1, Core.evE.eq_2, Core.evE.eq_3, Core.evE.eq_4, Core.evE.eq_5, Core.evE.eq_6, Core.evE.eq_7, Core.evE.eq_8, Core.evE.eq_9, Core.evE.eq_10, Core.evE.eq_11, Core.evE.eq_12, Core.evE.eq_13, Core.evE.eq_14, Core.evE.eq_15, Core.evE.eq_16, Core.evEs, Core.evRs, Core.evC, Core.evI, Core.evT, Core.evV, Core.evHolds, Core.setAll, Core.Out.bind, Core.Out.ofO, Core.hold, Core.frz, Core.peek, Core.mk, Core.isLst, Core.isB, Core.do1, Core.do2, Core.doSl, Core.partD, Core.dupFree, Core.bors, Core.isOwn, Core.passArgs, Core.backArgs, Core.ctx_callf, Core.ctx_io, Core.ctx_turns, Core.finish, Core.handBack, Core.outPs, Core.entry, Core.bindT, Core.bindTs, Core.wipe, Core.back, Core.walkItems, Core.bound, Core.boolsOf, cf3, b3, f1, e1, q0, bools_map, all_bools, e2, q1, e3]
        · rw [Bool.eq_false_iff] at e3
          refine e3 (List.all_eq_true.mpr fun p hp => ?_)
          unfold encR at h4
          have h5 := (PyData.tuple.inj h4)
          have h6 : PyData.tuple [p.1, p.2] ∈ r.map encP := by rw [← h5, hps]; exact List.mem_map.mpr ⟨p, hp, rfl⟩
          obtain ⟨⟨i, j⟩, hm, he⟩ := List.mem_map.mp h6
          have z := h3.2.1 _ hm
          unfold encP at he
          simp only [PyData.tuple.injEq, List.cons.injEq, and_true] at he
          obtain ⟨he1, he2⟩ := he
          unfold pPair
          rw [← he1, ← he2]
          simp [pWhole]
          dsimp only at z
          omega
      | true =>
        obtain ⟨r, er, h3⟩ := pairs_ok e3
        rw [← hps] at er
        have q2 : evE (P.ctx (callK P (k + 1))) q3_2 [.v (.tuple xs), .v (.int n), .no] = .ok (.n (.list ((r.map fun p => (p.1 : Int)).map PyData.int))) [.v (.tuple xs), .v (.int n), .no] := by
          refine lc_map (fun d => match d with | .tuple [a, b] => a | _ => .none) (xs := xs) (env1 := [.v (.tuple xs), .v (.int n), .no]) ?_ (fun x hx => ?_) (by rw [er, List.map_map, List.map_map]; rfl) rfl
          · simp [-List.map_map, Core.pyEq_int, Core.pyLt_int, Core.evSs, Core.evS.eq_1, Core.evS.eq_2, Core.evS.eq_3, Core.evS.eq_4, Core.evS.eq_5, Core.evS.eq_6, Core.evS.eq_7, Core.evS.eq_10, Core.evS.eq_11, Core.evS.eq_12, Core.evS.eq_13, Core.evS.eq_14, Core.evS.eq_15, Core.evE.eq_1, Core.evE.eq_2, Core.evE.eq_3, Core.evE.eq_4, Core.evE.eq_5, Core.evE.eq_6, Core.evE.eq_7, Core.evE.eq_8, Core.evE.eq_9, Core.evE.eq_10, Core.evE.eq_11, Core.evE.eq_12, Core.evE.eq_13, Core.evE.eq_14, Core.evE.eq_15, Core.evE.eq_16, Core.evEs, Core.evRs, Core.evC, Core.evI, Core.evT, Core.evV, Core.evHolds, Core.setAll, Core.Out.bind, Core.Out.ofO, Core.hold, Core.frz, Core.peek, Core.mk, Core.isLst, Core.isB, Core.do1, Core.do2, Core.doSl, Core.partD, Core.dupFree, Core.bors, Core.isOwn, Core.passArgs, Core.backArgs, Core.ctx_callf, Core.ctx_io, Core.ctx_turns, Core.finish, Core.handBack, Core.outPs, Core.entry, Core.bindT, Core.bindTs, Core.wipe, Core.back, Core.walkItems, Core.bound, Core.boolsOf]
          · rw [er] at hx
            obtain ⟨⟨a, b⟩, _, rfl⟩ := List.mem_map.mp hx
            refine ⟨[.v (.tuple xs), .v (.int n), .v (encP (a, b))], rfl, ?_, rfl⟩
            simp [-List.map_map, Core.pyEq_int, Core.pyLt_int, Core.evSs, Core.evS.eq_1, Core.evS.eq_2, Core.evS.eq_3, Core.evS.eq_4, Core.evS.eq_5, Core.evS.eq_6, Core.evS.eq_7, Core.evS.eq_10, Core.evS.eq_11, Core.evS.eq_12, Core.evS.eq_13, Core.evS.eq_14, Core.evS.eq_15, Core.evE.eq_1, Core.evE.eq_2, Core.evE.eq_3, Core.evE.eq_4, Core.evE.eq_5, Core.evE.eq_6, Core.evE.eq_7, Core.evE.eq_8, Core.evE.eq_9, Core.evE.eq_10, Core.evE.eq_11, Core.evE.eq_12, Core.evE.eq_13, Core.evE.eq_14, Core.evE.eq_15, Core.evE.eq_16, Core.evEs, Core.evRs, Core.evC, Core.evI, Core.evT, Core.evV, Core.evHolds, Core.setAll, Core.Out.bind, Core.Out.ofO, Core.hold, Core.frz, Core.peek, Core.mk, Core.isLst, Core.isB, Core.do1, Core.do2, Core.doSl, Core.partD, Core.dupFree, Core.bors, Core.isOwn, Core.passArgs, Core.backArgs, Core.ctx_callf, Core.ctx_io, Core.ctx_turns, Core.finish, Core.handBack, Core.outPs, Core.entry, Core.bindT, Core.bindTs, Core.wipe, Core.back, Core.walkItems, Core.bound, Core.boolsOf, encP, atI, ixN]
        refine ⟨asc (r.map fun p => (p.1 : Int)), ?_, ?_⟩
        · simp [-List.map_map, Core.pyEq_int, Core.pyLt_int, Core.evSs, Core.evS.eq_1, Core.evS.eq_2, Core.evS.eq_3, Core.evS.eq_4, Core.evS.eq_5, Core.evS.eq_6, Core.evS.eq_7, Core.evS.eq_10, Core.evS.eq_11, Core.evS.eq_12, Core.evS.eq_13, Core.evS.eq_14, Core.evS.eq_15, Core.evE.eq_1, Core.evE.eq_2, Core.evE.eq_3, Core.evE.eq_4, Core.evE.eq_5, Core.evE.eq_6, Core.evE.eq_7, Core.evE.eq_8, Core.evE.eq_9, Core.evE.eq_10, Core.evE.eq_11, Core.evE.eq_12, Core.evE.eq_13, Core.evE.eq_14, Core.evE.eq_15, Core.evE.eq_16, Core.evEs, Core.evRs, Core.evC, Core.evI, Core.evT, Core.evV, Core.evHolds, Core.setAll, Core.Out.bind, Core.Out.ofO, Core.hold, Core.frz, Core.peek, Core.mk, Core.isLst, Core.isB, Core.do1, Core.do2, Core.doSl, Core.partD, Core.dupFree, Core.bors, Core.isOwn, Core.passArgs, Core.backArgs, Core.ctx_callf, Core.ctx_io, Core.ctx_turns, Core.finish, Core.handBack, Core.outPs, Core.entry, Core.bindT, Core.bindTs, Core.wipe, Core.back, Core.walkItems, Core.bound, Core.boolsOf, cf3, b3, f1, e1, q0, bools_map, all_bools, e2, q1, e3, q2, f2]
        · refine ⟨fun ha => ⟨r, ⟨?_, h3, ha⟩, by rw [er]; rfl⟩, fun ⟨r', h4, h5⟩ => ?_⟩
          · simp only [pTupN, Bool.and_eq_true, decide_eq_true_eq] at e1
            have := congrArg List.length er
            simp only [List.length_map] at this e1
            omega
          · have e : r = r' := encR_inj (by rw [← h5, er]; rfl)
            rw [e]
            exact h4.2.2
/-! ### are_met -/
def metRow : Nat → List (Nat × Nat) → Option Nat
  | m, [] => some m
  | m, p :: r => if p.2 > m then none else metRow (if p.2 = m then m + 1 else m) r
def metAll : Nat → Nat → List (List (Nat × Nat)) → Option Nat
  | _, m, [] => some m
  | i, m, r :: rs => if i ≥ m then none else (metRow m r).bind (fun m => metAll (i + 1) m rs)
def MetOk (ms : List (List (Nat × Nat))) : Prop := metAll 0 1 ms = some ms.length
instance (ms : List (List (Nat × Nat))) : Decidable (MetOk ms) := inferInstanceAs (Decidable (_ = _))
theorem g4_0 (C : Ctx) (a c d : Sl) : ∀ (r : List (Nat × Nat)) (m : Nat) (s4 s5 : Sl), ∃ m' t4 t5, forGo (.tp [.nm 4, .nm 5]) (evSs C l4_0) (r.map encP) [a, .v (.int (m : Int)), c, d, s4, s5] = .ok (if (metRow m r).isSome then .next else .ret (.f (.bool false))) [a, .v (.int (m' : Nat)), c, d, t4, t5] ∧ ∀ z, metRow m r = some z → m' = z
  | [], m, s4, s5 => ⟨m, s4, s5, rfl, fun z h => by cases h; rfl⟩
  | (x, y) :: r, m, s4, s5 => by
    by_cases h : y > m
    · refine ⟨m, .v (.int x), .v (.int y), ?_, fun z hz => ?_⟩
      · rw [List.map_cons, forGo_ret (env1 := [a, .v (.int m), c, d, .v (.int x), .v (.int y)]) (env2 := [a, .v (.int m), c, d, .v (.int x), .v (.int y)]) (r := .f (.bool false)) rfl (by
          have : ((m : Int) < (y : Int)) := by omega
          simp [-List.map_map, Core.pyEq_int, Core.pyLt_int, Core.evSs, Core.evS.eq_1, Core.evS.eq_2, Core.evS.eq_3, Core.evS.eq_4, Core.evS.eq_5, Core.evS.eq_6, Core.evS.eq_7, Core.evS.eq_10, Core.evS.eq_11, Core.evS.eq_12, Core.evS.eq_13, Core.evS.eq_14, Core.evS.eq_15, Core.evE.eq_1, Core.evE.eq_2, Core.evE.eq_3, Core.evE.eq_4, Core.evE.eq_5, Core.evE.eq_6, Core.evE.eq_7, Core.evE.eq_8, Core.evE.eq_9, Core.evE.eq_10, Core.evE.eq_11, Core.evE.eq_12, Core.evE.eq_13, Core.evE.eq_14, Core.evE.eq_15, Core.evE.eq_16, Core.evEs, Core.evRs, Core.evC, Core.evI, Core.evT, Core.evV, Core.evHolds, Core.setAll, Core.Out.bind, Core.Out.ofO, Core.hold, Core.frz, Core.peek, Core.mk, Core.isLst, Core.isB, Core.do1, Core.do2, Core.doSl, Core.partD, Core.dupFree, Core.bors, Core.isOwn, Core.passArgs, Core.backArgs, Core.ctx_callf, Core.ctx_io, Core.ctx_turns, Core.finish, Core.handBack, Core.outPs, Core.entry, Core.bindT, Core.bindTs, Core.wipe, Core.back, Core.walkItems, Core.bound, Core.boolsOf, l4_0, this])]
        simp [metRow, h]
      · simp [metRow, h] at hz
    · obtain ⟨m', t4, t5, e1, e2⟩ := g4_0 C a c d r (if y = m then m + 1 else m) (.v (.int x)) (.v (.int y))
      refine ⟨m', t4, t5, ?_, fun z hz => ?_⟩
      · rw [List.map_cons, forGo_next (env1 := [a, .v (.int m), c, d, .v (.int x), .v (.int y)]) (env2 := [a, .v (.int (if y = m then m + 1 else m : Nat)), c, d, .v (.int x), .v (.int y)]) rfl (by
          have h1 : ¬ ((m : Int) < (y : Int)) := by omega
          by_cases h2 : y = m
          · subst h2
            simp [-List.map_map, Core.pyEq_int, Core.pyLt_int, Core.evSs, Core.evS.eq_1, Core.evS.eq_2, Core.evS.eq_3, Core.evS.eq_4, Core.evS.eq_5, Core.evS.eq_6, Core.evS.eq_7, Core.evS.eq_10, Core.evS.eq_11, Core.evS.eq_12, Core.evS.eq_13, Core.evS.eq_14, Core.evS.eq_15, Core.evE.eq_1, Core.evE.eq_2, Core.evE.eq_3, Core.evE.eq_4, Core.evE.eq_5, Core.evE.eq_6, Core.evE.eq_7, Core.evE.eq_8, Core.evE.eq_9, Core.evE.eq_10, Core.evE.eq_11, Core.evE.eq_12, Core.evE.eq_13, Core.evE.eq_14, Core.evE.eq_15, Core.evE.eq_16, Core.evEs, Core.evRs, Core.evC, Core.evI, Core.evT, Core.evV, Core.evHolds, Core.setAll, Core.Out.bind, Core.Out.ofO, Core.hold, Core.frz, Core.peek, Core.mk, Core.isLst, Core.isB, Core.do1, Core.do2, Core.doSl, Core.partD, Core.dupFree, Core.bors, Core.isOwn, Core.passArgs, Core.backArgs, Core.ctx_callf, Core.ctx_io, Core.ctx_turns, Core.finish, Core.handBack, Core.outPs, Core.entry, Core.bindT, Core.bindTs, Core.wipe, Core.back, Core.walkItems, Core.bound, Core.boolsOf, l4_0]
          · have h3 : ¬ ((y : Int) = (m : Int)) := by omega
            simp [-List.map_map, Core.pyEq_int, Core.pyLt_int, Core.evSs, Core.evS.eq_1, Core.evS.eq_2, Core.evS.eq_3, Core.evS.eq_4, Core.evS.eq_5, Core.evS.eq_6, Core.evS.eq_7, Core.evS.eq_10, Core.evS.eq_11, Core.evS.eq_12, Core.evS.eq_13, Core.evS.eq_14, Core.evS.eq_15, Core.evE.eq_1, Core.evE.eq_2, Core.evE.eq_3, Core.evE.eq_4, Core.evE.eq_5, Core.evE.eq_6, Core.evE.eq_7, Core.evE.eq_8, Core.evE.eq_9, Core.evE.eq_10, Core.evE.eq_11, Core.evE.eq_12, Core.evE.eq_13, Core.evE.eq_14, Core.evE.eq_15, Core.evE.eq_16, Core.evEs, Core.evRs, Core.evC, Core.evI, Core.evT, Core.evV, Core.evHolds, Core.setAll, Core.Out.bind, Core.Out.ofO, Core.hold, Core.frz, Core.peek, Core.mk, Core.isLst, Core.isB, Core.do1, Core.do2, Core.doSl, Core.partD, Core.dupFree, Core.bors, Core.isOwn, Core.passArgs, Core.backArgs, Core.ctx_callf, Core.ctx_io, Core.ctx_turns, Core.finish, Core.handBack, Core.outPs, Core.entry, Core.bindT, Core.bindTs, Core.wipe, Core.back, Core.walkItems, Core.bound, Core.boolsOf, l4_0, h1, h2, h3]), e1]
        simp [metRow, h]
      · simp only [metRow, h, if_false] at hz
        exact e2 z hz
theorem g4_1 (C : Ctx) (a : Sl) : ∀ (ms : List (List (Nat × Nat))) (i m : Nat) (s2 s3 s4 s5 : Sl), ∃ m' t2 t3 t4 t5, forGo (.tp [.nm 2, .nm 3]) (evSs C l4_1) (enuD i (ms.map encR)) [a, .v (.int (m : Int)), s2, s3, s4, s5] = .ok (if (metAll i m ms).isSome then .next else .ret (.f (.bool false))) [a, .v (.int (m' : Nat)), t2, t3, t4, t5] ∧ ∀ z, metAll i m ms = some z → m' = z
  | [], i, m, s2, s3, s4, s5 => ⟨m, s2, s3, s4, s5, rfl, fun z h => by cases h; rfl⟩
  | r :: ms, i, m, s2, s3, s4, s5 => by
    by_cases h : i ≥ m
    · refine ⟨m, .v (.int i), .v (encR r), s4, s5, ?_, fun z hz => ?_⟩
      · rw [List.map_cons, enuD, forGo_ret (env1 := [a, .v (.int m), .v (.int i), .v (encR r), s4, s5]) (env2 := [a, .v (.int m), .v (.int i), .v (encR r), s4, s5]) (r := .f (.bool false)) rfl (by
          have : ((m : Int) ≤ (i : Int)) := by omega
          simp [-List.map_map, Core.pyEq_int, Core.pyLt_int, Core.evSs, Core.evS.eq_1, Core.evS.eq_2, Core.evS.eq_3, Core.evS.eq_4, Core.evS.eq_5, Core.evS.eq_6, Core.evS.eq_7, Core.evS.eq_10, Core.evS.eq_11, Core.evS.eq_12, Core.evS.eq_13, Core.evS.eq_14, Core.evS.eq_15, Core.evE.eq_1, Core.evE.eq_2, Core.evE.eq_3, Core.evE.eq_4, Core.evE.eq_5, Core.evE.eq_6, Core.evE.eq_7, Core.evE.eq_8, Core.evE.eq_9, Core.evE.eq_10, Core.evE.eq_11, Core.evE.eq_12, Core.evE.eq_13, Core.evE.eq_14, Core.evE.eq_15, Core.evE.eq_16, Core.evEs, Core.evRs, Core.evC, Core.evI, Core.evT, Core.evV, Core.evHolds, Core.setAll, Core.Out.bind, Core.Out.ofO, Core.hold, Core.frz, Core.peek, Core.mk, Core.isLst, Core.isB, Core.do1, Core.do2, Core.doSl, Core.partD, Core.dupFree, Core.bors, Core.isOwn, Core.passArgs, Core.backArgs, Core.ctx_callf, Core.ctx_io, Core.ctx_turns, Core.finish, Core.handBack, Core.outPs, Core.entry, Core.bindT, Core.bindTs, Core.wipe, Core.back, Core.walkItems, Core.bound, Core.boolsOf, l4_1, this])]
        simp [metAll, h]
      · simp [metAll, h] at hz
    · obtain ⟨m', t4, t5, e1, e2⟩ := g4_0 C a (.v (.int i)) (.v (encR r)) r m s4 s5
      have h1 : ¬ ((m : Int) ≤ (i : Int)) := by omega
      have hI : evS C (.for_ (.tp [(.nm 4), (.nm 5)]) (.seq (.var 3)) l4_0) [a, .v (.int m), .v (.int i), .v (encR r), s4, s5] = forGo (.tp [.nm 4, .nm 5]) (evSs C l4_0) (r.map encP) [a, .v (.int m), .v (.int i), .v (encR r), s4, s5] := by
        rw [evS]
        simp [-List.map_map, Core.pyEq_int, Core.pyLt_int, Core.evSs, Core.evS.eq_1, Core.evS.eq_2, Core.evS.eq_3, Core.evS.eq_4, Core.evS.eq_5, Core.evS.eq_6, Core.evS.eq_7, Core.evS.eq_10, Core.evS.eq_11, Core.evS.eq_12, Core.evS.eq_13, Core.evS.eq_14, Core.evS.eq_15, Core.evE.eq_1, Core.evE.eq_2, Core.evE.eq_3, Core.evE.eq_4, Core.evE.eq_5, Core.evE.eq_6, Core.evE.eq_7, Core.evE.eq_8, Core.evE.eq_9, Core.evE.eq_10, Core.evE.eq_11, Core.evE.eq_12, Core.evE.eq_13, Core.evE.eq_14, Core.evE.eq_15, Core.evE.eq_16, Core.evEs, Core.evRs, Core.evC, Core.evI, Core.evT, Core.evV, Core.evHolds, Core.setAll, Core.Out.bind, Core.Out.ofO, Core.hold, Core.frz, Core.peek, Core.mk, Core.isLst, Core.isB, Core.do1, Core.do2, Core.doSl, Core.partD, Core.dupFree, Core.bors, Core.isOwn, Core.passArgs, Core.backArgs, Core.ctx_callf, Core.ctx_io, Core.ctx_turns, Core.finish, Core.handBack, Core.outPs, Core.entry, Core.bindT, Core.bindTs, Core.wipe, Core.back, Core.walkItems, Core.bound, Core.boolsOf, encR]
      cases e3 : metRow m r with
      | none =>
        refine ⟨m', .v (.int i), .v (encR r), t4, t5, ?_, fun z hz => ?_⟩
        · rw [List.map_cons, enuD, forGo_ret (env1 := [a, .v (.int m), .v (.int i), .v (encR r), s4, s5]) (env2 := [a, .v (.int m'), .v (.int i), .v (encR r), t4, t5]) (r := .f (.bool false)) rfl (by
            rw [e3] at e1
            simp [-List.map_map, Core.pyEq_int, Core.pyLt_int, Core.evSs, Core.evS.eq_1, Core.evS.eq_2, Core.evS.eq_3, Core.evS.eq_4, Core.evS.eq_5, Core.evS.eq_6, Core.evS.eq_7, Core.evS.eq_10, Core.evS.eq_11, Core.evS.eq_12, Core.evS.eq_13, Core.evS.eq_14, Core.evS.eq_15, Core.evE.eq_1, Core.evE.eq_2, Core.evE.eq_3, Core.evE.eq_4, Core.evE.eq_5, Core.evE.eq_6, Core.evE.eq_7, Core.evE.eq_8, Core.evE.eq_9, Core.evE.eq_10, Core.evE.eq_11, Core.evE.eq_12, Core.evE.eq_13, Core.evE.eq_14, Core.evE.eq_15, Core.evE.eq_16, Core.evEs, Core.evRs, Core.evC, Core.evI, Core.evT, Core.evV, Core.evHolds, Core.setAll, Core.Out.bind, Core.Out.ofO, Core.hold, Core.frz, Core.peek, Core.mk, Core.isLst, Core.isB, Core.do1, Core.do2, Core.doSl, Core.partD, Core.dupFree, Core.bors, Core.isOwn, Core.passArgs, Core.backArgs, Core.ctx_callf, Core.ctx_io, Core.ctx_turns, Core.finish, Core.handBack, Core.outPs, Core.entry, Core.bindT, Core.bindTs, Core.wipe, Core.back, Core.walkItems, Core.bound, Core.boolsOf, l4_1, h1, hI, e1])]
          simp [metAll, h, e3]
        · simp [metAll, h, e3] at hz
      | some m1 =>
        have e4 := e2 _ e3
        subst e4
        obtain ⟨m'', u2, u3, u4, u5, k1, k2⟩ := g4_1 C a ms (i + 1) m' (.v (.int i)) (.v (encR r)) t4 t5
        refine ⟨m'', u2, u3, u4, u5, ?_, fun z hz => ?_⟩
        · rw [List.map_cons, enuD, forGo_next (env1 := [a, .v (.int m), .v (.int i), .v (encR r), s4, s5]) (env2 := [a, .v (.int m'), .v (.int i), .v (encR r), t4, t5]) rfl (by
            rw [e3] at e1
            simp [-List.map_map, Core.pyEq_int, Core.pyLt_int, Core.evSs, Core.evS.eq_1, Core.evS.eq_2, Core.evS.eq_3, Core.evS.eq_4, Core.evS.eq_5, Core.evS.eq_6, Core.evS.eq_7, Core.evS.eq_10, Core.evS.eq_11, Core.evS.eq_12, Core.evS.eq_13, Core.evS.eq_14, Core.evS.eq_15, Core.evE.eq_1, Core.evE.eq_2, Core.evE.eq_3, Core.evE.eq_4, Core.evE.eq_5, Core.evE.eq_6, Core.evE.eq_7, Core.evE.eq_8, Core.evE.eq_9, Core.evE.eq_10, Core.evE.eq_11, Core.evE.eq_12, Core.evE.eq_13, Core.evE.eq_14, Core.evE.eq_15, Core.evE.eq_16, Core.evEs, Core.evRs, Core.evC, Core.evI, Core.evT, Core.evV, Core.evHolds, Core.setAll, Core.Out.bind, Core.Out.ofO, Core.hold, Core.frz, Core.peek, Core.mk, Core.isLst, Core.isB, Core.do1, Core.do2, Core.doSl, Core.partD, Core.dupFree, Core.bors, Core.isOwn, Core.passArgs, Core.backArgs, Core.ctx_callf, Core.ctx_io, Core.ctx_turns, Core.finish, Core.handBack, Core.outPs, Core.entry, Core.bindT, Core.bindTs, Core.wipe, Core.back, Core.walkItems, Core.bound, Core.boolsOf, l4_1, h1, hI, e1]), k1]
          simp [metAll, h, e3]
        · simp only [metAll, h, if_false, e3, Option.bind_some] at hz
          exact k2 z hz
theorem f4 (k : Nat) (ms : List (List (Nat × Nat))) : callK P (k + 1) 4 [.v (encM ms)] = .ok (.bool (decide (MetOk ms))) false [.v (encM ms)] := by
  rw [callK_eq (cf := cf4) rfl rfl]
  obtain ⟨m', t2, t3, t4, t5, e1, e2⟩ := g4_1 (P.ctx (callK P k)) (.v (encM ms)) ms 0 1 .no .no .no .no
  have hI : evS (P.ctx (callK P k)) (.for_ (.tp [(.nm 2), (.nm 3)]) (.enu (.var 0)) l4_1) [.v (encM ms), .v (.int 1), .no, .no, .no, .no] = forGo (.tp [.nm 2, .nm 3]) (evSs (P.ctx (callK P k)) l4_1) (enuD 0 (ms.map encR)) [.v (encM ms), .v (.int 1), .no, .no, .no, .no] := by
    rw [evS]
    simp [-List.map_map, Core.pyEq_int, Core.pyLt_int, Core.evSs, Core.evS.eq_1, Core.evS.eq_2, Core.evS.eq_3, Core.evS.eq_4, Core.evS.eq_5, Core.evS.eq_6, Core.evS.eq_7, Core.evS.eq_10, Core.evS.eq_11, Core.evS.eq_12, Core.evS.eq_13, Core.evS.eq_14, Core.evS.eq_15, Core.evE.eq_1, Core.evE.eq_2, Core.evE.eq_3, Core.evE.eq_4, Core.evE.eq_5, Core.evE.eq_6, Core.evE.eq_7, Core.evE.eq_8, Core.evE.eq_9, Core.evE.eq_10, Core.evE.eq_11, Core.evE.eq_12, Core.evE.eq_13, Core.evE.eq_14, Core.evE.eq_15, Core.evE.eq_16, Core.evEs, Core.evRs, Core.evC, Core.evI, Core.evT, Core.evV, Core.evHolds, Core.setAll, Core.Out.bind, Core.Out.ofO, Core.hold, Core.frz, Core.peek, Core.mk, Core.isLst, Core.isB, Core.do1, Core.do2, Core.doSl, Core.partD, Core.dupFree, Core.bors, Core.isOwn, Core.passArgs, Core.backArgs, Core.ctx_callf, Core.ctx_io, Core.ctx_turns, Core.finish, Core.handBack, Core.outPs, Core.entry, Core.bindT, Core.bindTs, Core.wipe, Core.back, Core.walkItems, Core.bound, Core.boolsOf, encM]
  have e1' : forGo (.tp [.nm 2, .nm 3]) (evSs (P.ctx (callK P k)) l4_1) (enuD 0 (ms.map encR)) [.v (encM ms), .v (.int 1), .no, .no, .no, .no] = _ := e1
  have hl : (P.ctx (callK P k)).callf = callK P k := rfl
  cases e3 : metAll 0 1 ms with
  | none =>
    rw [e3] at e1'
    simp [-List.map_map, Core.pyEq_int, Core.pyLt_int, Core.evSs, Core.evS.eq_1, Core.evS.eq_2, Core.evS.eq_3, Core.evS.eq_4, Core.evS.eq_5, Core.evS.eq_6, Core.evS.eq_7, Core.evS.eq_10, Core.evS.eq_11, Core.evS.eq_12, Core.evS.eq_13, Core.evS.eq_14, Core.evS.eq_15, Core.evE.eq_1, Core.evE.eq_2, Core.evE.eq_3, Core.evE.eq_4, Core.evE.eq_5, Core.evE.eq_6, Core.evE.eq_7, Core.evE.eq_8, Core.evE.eq_9, Core.evE.eq_10, Core.evE.eq_11, Core.evE.eq_12, Core.evE.eq_13, Core.evE.eq_14, Core.evE.eq_15, Core.evE.eq_16, Core.evEs, Core.evRs, Core.evC, Core.evI, Core.evT, Core.evV, Core.evHolds, Core.setAll, Core.Out.bind, Core.Out.ofO, Core.hold, Core.frz, Core.peek, Core.mk, Core.isLst, Core.isB, Core.do1, Core.do2, Core.doSl, Core.partD, Core.dupFree, Core.bors, Core.isOwn, Core.passArgs, Core.backArgs, Core.ctx_callf, Core.ctx_io, Core.ctx_turns, Core.finish, Core.handBack, Core.outPs, Core.entry, Core.bindT, Core.bindTs, Core.wipe, Core.back, Core.walkItems, Core.bound, Core.boolsOf, cf4, b4, hI, e1', MetOk, e3]
  | some z =>
    rw [e3] at e1'
    have e4 := e2 _ e3
    subst e4
    have e5 : (encM ms) = .tuple (ms.map encR) := rfl
    rw [e5] at hI e1' ⊢
    simp [-List.map_map, Core.pyEq_int, Core.pyLt_int, Core.evSs, Core.evS.eq_1, Core.evS.eq_2, Core.evS.eq_3, Core.evS.eq_4, Core.evS.eq_5, Core.evS.eq_6, Core.evS.eq_7, Core.evS.eq_10, Core.evS.eq_11, Core.evS.eq_12, Core.evS.eq_13, Core.evS.eq_14, Core.evS.eq_15, Core.evE.eq_1, Core.evE.eq_2, Core.evE.eq_3, Core.evE.eq_4, Core.evE.eq_5, Core.evE.eq_6, Core.evE.eq_7, Core.evE.eq_8, Core.evE.eq_9, Core.evE.eq_10, Core.evE.eq_11, Core.evE.eq_12, Core.evE.eq_13, Core.evE.eq_14, Core.evE.eq_15, Core.evE.eq_16, Core.evEs, Core.evRs, Core.evC, Core.evI, Core.evT, Core.evV, Core.evHolds, Core.setAll, Core.Out.bind, Core.Out.ofO, Core.hold, Core.frz, Core.peek, Core.mk, Core.isLst, Core.isB, Core.do1, Core.do2, Core.doSl, Core.partD, Core.dupFree, Core.bors, Core.isOwn, Core.passArgs, Core.backArgs, Core.ctx_callf, Core.ctx_io, Core.ctx_turns, Core.finish, Core.handBack, Core.outPs, Core.entry, Core.bindT, Core.bindTs, Core.wipe, Core.back, Core.walkItems, Core.bound, Core.boolsOf, cf4, b4, hI, e1', MetOk, e3]
    by_cases h : m' = ms.length
    · simp [h]
    · have h2 : ¬ ((m' : Int) = (ms.length : Int)) := by omega
      simp [h, h2]
end C65
end Core
end

section
set_option linter.all false
set_option autoImplicit false
set_option maxRecDepth 100000
namespace Core
open PySem PySem.W
namespace C65
/-! ### fits_moves -/
noncomputable def rowB (n : Nat) (d : D) : Bool := @decide (∃ r, RowOk n r ∧ d = encR r) (Classical.propDecidable _)
theorem rowB_iff {n : Nat} {d : D} : rowB n d = true ↔ ∃ r, RowOk n r ∧ d = encR r := by
  unfold rowB
  exact @decide_eq_true_iff _ (Classical.propDecidable _)
theorem f3' (k : Nat) (d : D) (n : Nat) : callK P (k + 2) 3 [.v d, .v (.int n)] = .ok (.bool (rowB n d)) false [.v d, .v (.int n)] := by
  obtain ⟨b, h1, h2⟩ := f3 k d n
  have e : rowB n d = b := by
    rw [Bool.eq_iff_iff, rowB_iff, h2]
  rw [h1, e]
def MovesOk (ms : List (List (Nat × Nat))) : Prop := 1 ≤ ms.length ∧ ms.length ≤ 300 ∧ (∀ r ∈ ms, RowOk ms.length r) ∧ MetOk ms
theorem rows_ok {n : Nat} : ∀ {xs : List D}, xs.all (rowB n) = true ↔ ∃ ms : List (List (Nat × Nat)), (∀ r ∈ ms, RowOk n r) ∧ xs = ms.map encR
  | [] => ⟨fun _ => ⟨[], (fun _ h => by cases h), rfl⟩, fun _ => rfl⟩
  | x :: xs => by
    rw [List.all_cons, Bool.and_eq_true, rowB_iff, rows_ok]
    refine ⟨fun ⟨⟨r, h1, h2⟩, ms, h3, h4⟩ => ⟨r :: ms, fun y hy => ?_, by rw [h2, h4]; rfl⟩, fun ⟨ms, h1, h2⟩ => ?_⟩
    · rcases List.mem_cons.mp hy with rfl | hy
      · exact h1
      · exact h3 y hy
    · cases ms with
      | nil => cases h2
      | cons r ms =>
        rw [List.map_cons, List.cons.injEq] at h2
        exact ⟨⟨r, h1 r List.mem_cons_self, h2.1⟩, ms, fun y hy => h1 y (List.mem_cons_of_mem _ hy), h2.2⟩
noncomputable def movesB (d : D) : Bool := @decide (∃ ms, MovesOk ms ∧ d = encM ms) (Classical.propDecidable _)
theorem movesB_iff {d : D} : movesB d = true ↔ ∃ ms, MovesOk ms ∧ d = encM ms := by
  unfold movesB
  exact @decide_eq_true_iff _ (Classical.propDecidable _)
theorem movesB_not {d : D} (h : ∀ ms, MovesOk ms → d ≠ encM ms) : movesB d = false := by
  rw [Bool.eq_false_iff]
  intro e
  obtain ⟨ms, h1, h2⟩ := movesB_iff.mp e
  exact h ms h1 h2
theorem f5o (k : Nat) (ys : List D) : callK P (k + 2) 5 [.o ys] = .ok (.bool false) false [.o ys] := by
  rw [callK_eq (cf := cf5) rfl rfl]
  simp [-List.map_map, Core.pyEq_int, Core.pyLt_int, Core.evSs, Core.evS.eq_1, Core.evS.eq_2, Core.evS.eq_3, Core.evS.eq_4, Core.evS.eq_5, Core.evS.eq_6, Core.evS.eq_7, Core.evS.eq_10, Core.evS.eq_11, Core.evS.eq_12, Core.evS.eq_13, Core.evS.eq_14, Core.evS.eq_15, Core.evE.eq_1, Core.evE.eq_2, Core.evE.eq_3, Core.evE.eq_4, Core.evE.eq_5, Core.evE.eq_6, Core.evE.eq_7, Core.evE.eq_8, Core.evE.eq_9, Core.evE.eq_10, Core.evE.eq_11, Core.evE.eq_12, Core.evE.eq_13, Core.evE.eq_14, Core.evE.eq_15, Core.evE.eq_16, Core.evEs, Core.evRs, Core.evC, Core.evI, Core.evT, Core.evV, Core.evHolds, Core.setAll, Core.Out.bind, Core.Out.ofO, Core.hold, Core.frz, Core.peek, Core.mk, Core.isLst, Core.isB, Core.do1, Core.do2, Core.doSl, Core.partD, Core.dupFree, Core.bors, Core.isOwn, Core.passArgs, Core.backArgs, Core.ctx_callf, Core.ctx_io, Core.ctx_turns, Core.finish, Core.handBack, Core.outPs, Core.entry, Core.bindT, Core.bindTs, Core.wipe, Core.back, Core.walkItems, Core.bound, Core.boolsOf, cf5, b5, f1o]
theorem f5 (k : Nat) (d : D) : callK P (k + 3) 5 [.v d] = .ok (.bool (movesB d)) false [.v d] := by
  rw [callK_eq (cf := cf5) rfl rfl]
  cases e1 : pTupN d 1 300 with
  | false =>
    have e : movesB d = false := movesB_not fun ms h1 h2 => by
      rw [h2] at e1
      have := h1.1; have := h1.2.1
      simp [encM, pTupN] at e1
      omega
    rw [e]
    simp [-List.map_map, Core.pyEq_int, Core.pyLt_int, Core.evSs, Core.evS.eq_1, Core.evS.eq_2, Core.evS.eq_3, Core.evS.eq_4, Core.evS.eq_5, Core.evS.eq_6, Core.evS.eq_7, Core.evS.eq_10, Core.evS.eq_11, Core.evS.eq_12, Core.evS.eq_13, Core.evS.eq_14, Core.evS.eq_15, Core.evE.eq_1, Core.evE.eq_2, Core.evE.eq_3, Core.evE.eq_4, Core.evE.eq_5, Core.evE.eq_6, Core.evE.eq_7, Core.evE.eq_8, Core.evE.eq_9, Core.evE.eq_10, Core.evE.eq_11, Core.evE.eq_12, Core.evE.eq_13, Core.evE.eq_14, Core.evE.eq_15, Core.evE.eq_16, Core.evEs, Core.evRs, Core.evC, Core.evI, Core.evT, Core.evV, Core.evHolds, Core.setAll, Core.Out.bind, Core.Out.ofO, Core.hold, Core.frz, Core.peek, Core.mk, Core.isLst, Core.isB, Core.do1, Core.do2, Core.doSl, Core.partD, Core.dupFree, Core.bors, Core.isOwn, Core.passArgs, Core.backArgs, Core.ctx_callf, Core.ctx_io, Core.ctx_turns, Core.finish, Core.handBack, Core.outPs, Core.entry, Core.bindT, Core.bindTs, Core.wipe, Core.back, Core.walkItems, Core.bound, Core.boolsOf, cf5, b5, f1, e1]
  | true =>
    have ⟨xs, hx⟩ : ∃ xs, d = .tuple xs := by
      unfold pTupN at e1
      split at e1
      · exact ⟨_, rfl⟩
      · cases e1
    subst hx
    have q0 : evE (P.ctx (callK P (k + 2))) q5_0 [.v (.tuple xs), .no] = .ok (.n (.list ((xs.map (rowB xs.length)).map PyData.bool))) [.v (.tuple xs), .no] := by
      refine lc_map (fun d => .bool (rowB xs.length d)) (xs := xs) (env1 := [.v (.tuple xs), .no]) ?_ (fun x hx => ?_) (by rw [List.map_map]; rfl) rfl
      · simp [-List.map_map, Core.pyEq_int, Core.pyLt_int, Core.evSs, Core.evS.eq_1, Core.evS.eq_2, Core.evS.eq_3, Core.evS.eq_4, Core.evS.eq_5, Core.evS.eq_6, Core.evS.eq_7, Core.evS.eq_10, Core.evS.eq_11, Core.evS.eq_12, Core.evS.eq_13, Core.evS.eq_14, Core.evS.eq_15, Core.evE.eq_1, Core.evE.eq_2, Core.evE.eq_3, Core.evE.eq_4, Core.evE.eq_5, Core.evE.eq_6, Core.evE.eq_7, Core.evE.eq_8, Core.evE.eq_9, Core.evE.eq_10, Core.evE.eq_11, Core.evE.eq_12, Core.evE.eq_13, Core.evE.eq_14, Core.evE.eq_15, Core.evE.eq_16, Core.evEs, Core.evRs, Core.evC, Core.evI, Core.evT, Core.evV, Core.evHolds, Core.setAll, Core.Out.bind, Core.Out.ofO, Core.hold, Core.frz, Core.peek, Core.mk, Core.isLst, Core.isB, Core.do1, Core.do2, Core.doSl, Core.partD, Core.dupFree, Core.bors, Core.isOwn, Core.passArgs, Core.backArgs, Core.ctx_callf, Core.ctx_io, Core.ctx_turns, Core.finish, Core.handBack, Core.outPs, Core.entry, Core.bindT, Core.bindTs, Core.wipe, Core.back, Core.walkItems, Core.bound, Core.boolsOf]
      · refine ⟨[.v (.tuple xs), .v x], rfl, ?_, rfl⟩
        simp [-List.map_map, Core.pyEq_int, Core.pyLt_int, Core.evSs, Core.evS.eq_1, Core.evS.eq_2, Core.evS.eq_3, Core.evS.eq_4, Core.evS.eq_5, Core.evS.eq_6, Core.evS.eq_7, Core.evS.eq_10, Core.evS.eq_11, Core.evS.eq_12, Core.evS.eq_13, Core.evS.eq_14, Core.evS.eq_15, Core.evE.eq_1, Core.evE.eq_2, Core.evE.eq_3, Core.evE.eq_4, Core.evE.eq_5, Core.evE.eq_6, Core.evE.eq_7, Core.evE.eq_8, Core.evE.eq_9, Core.evE.eq_10, Core.evE.eq_11, Core.evE.eq_12, Core.evE.eq_13, Core.evE.eq_14, Core.evE.eq_15, Core.evE.eq_16, Core.evEs, Core.evRs, Core.evC, Core.evI, Core.evT, Core.evV, Core.evHolds, Core.setAll, Core.Out.bind, Core.Out.ofO, Core.hold, Core.frz, Core.peek, Core.mk, Core.isLst, Core.isB, Core.do1, Core.do2, Core.doSl, Core.partD, Core.dupFree, Core.bors, Core.isOwn, Core.passArgs, Core.backArgs, Core.ctx_callf, Core.ctx_io, Core.ctx_turns, Core.finish, Core.handBack, Core.outPs, Core.entry, Core.bindT, Core.bindTs, Core.wipe, Core.back, Core.walkItems, Core.bound, Core.boolsOf, f3']
    cases e2 : xs.all (rowB xs.length) with
    | false =>
      have e : movesB (.tuple xs) = false := movesB_not fun ms h1 h2 => by
        rw [Bool.eq_false_iff] at e2
        have h3 : xs = ms.map encR := PyData.tuple.inj h2
        refine e2 (rows_ok.mpr ⟨ms, ?_, h3⟩)
        rw [h3, List.length_map]
        exact h1.2.2.1
      rw [e]
      simp [-List.map_map, Core.pyEq_int, Core.pyLt_int, Core.evSs, Core.evS.eq_1, Core.evS.eq_2, Core.evS.eq_3, Core.evS.eq_4, Core.evS.eq_5, Core.evS.eq_6, Core.evS.eq_7, Core.evS.eq_10, Core.evS.eq_11, Core.evS.eq_12, Core.evS.eq_13, Core.evS.eq_14, Core.evS.eq_15, Core.evE.eq_1, Core.evE.eq_2, Core.evE.eq_3, Core.evE.eq_4, Core.evE.eq_5, Core.evE.eq_6, Core.evE.eq_7, Core.evE.eq_8, Core.evE.eq_9, Core.evE.eq_10, Core.evE.eq_11, Core.evE.eq_12, Core.evE.eq_13, Core.evE.eq_14, Core.evE.eq_15, Core.evE.eq_16, Core.evEs, Core.evRs, Core.evC, Core.evI, Core.evT, Core.evV, Core.evHolds, Core.setAll, Core.Out.bind, Core.Out.ofO, Core.hold, Core.frz, Core.peek, Core.mk, Core.isLst, Core.isB, Core.do1, Core.do2, Core.doSl, Core.partD, Core.dupFree, Core.bors, Core.isOwn, Core.passArgs, Core.backArgs, Core.ctx_callf, Core.ctx_io, Core.ctx_turns, Core.finish, Core.handBack, Core.outPs, Core.entry, Core.bindT, Core.bindTs, Core.wipe, Core.back, Core.walkItems, Core.bound, Core.boolsOf, cf5, b5, f1, e1, q0, bools_map, all_bools, e2]
    | true =>
      obtain ⟨ms, h1, h2⟩ := rows_ok.mp e2
      have e : movesB (.tuple xs) = decide (MetOk ms) := by
        rw [Bool.eq_iff_iff, movesB_iff, decide_eq_true_iff]
        have hl : xs.length = ms.length := by rw [h2, List.length_map]
        refine ⟨fun ⟨ms', h3, h4⟩ => ?_, fun h => ⟨ms, ⟨?_, ?_, ?_, h⟩, congrArg _ h2⟩⟩
        · have e4 : encM ms = encM ms' := by rw [← h4, h2]; rfl
          rw [encM_inj e4]
          exact h3.2.2.2
        · simp only [pTupN, Bool.and_eq_true, decide_eq_true_eq] at e1
          omega
        · simp only [pTupN, Bool.and_eq_true, decide_eq_true_eq] at e1
          omega
        · rw [← hl]; exact h1
      have e5 : PyData.tuple xs = encM ms := congrArg _ h2
      have q4 : callK P (k + 2) 4 [.v (.tuple xs)] = .ok (.bool (decide (MetOk ms))) false [.v (.tuple xs)] := by
        rw [e5]
        exact f4 (k + 1) ms
      rw [e]
      simp [-List.map_map, Core.pyEq_int, Core.pyLt_int, Core.evSs, Core.evS.eq_1, Core.evS.eq_2, Core.evS.eq_3, Core.evS.eq_4, Core.evS.eq_5, Core.evS.eq_6, Core.evS.eq_7, Core.evS.eq_10, Core.evS.eq_11, Core.evS.eq_12, Core.evS.eq_13, Core.evS.eq_14, Core.evS.eq_15, Core.evE.eq_1, Core.evE.eq_2, Core.evE.eq_3, Core.evE.eq_4, Core.evE.eq_5, Core.evE.eq_6, Core.evE.eq_7, Core.evE.eq_8, Core.evE.eq_9, Core.evE.eq_10, Core.evE.eq_11, Core.evE.eq_12, Core.evE.eq_13, Core.evE.eq_14, Core.evE.eq_15, Core.evE.eq_16, Core.evEs, Core.evRs, Core.evC, Core.evI, Core.evT, Core.evV, Core.evHolds, Core.setAll, Core.Out.bind, Core.Out.ofO, Core.hold, Core.frz, Core.peek, Core.mk, Core.isLst, Core.isB, Core.do1, Core.do2, Core.doSl, Core.partD, Core.dupFree, Core.bors, Core.isOwn, Core.passArgs, Core.backArgs, Core.ctx_callf, Core.ctx_io, Core.ctx_turns, Core.finish, Core.handBack, Core.outPs, Core.entry, Core.bindT, Core.bindTs, Core.wipe, Core.back, Core.walkItems, Core.bound, Core.boolsOf, cf5, b5, f1, e1, q0, bools_map, all_bools, e2, q4]
theorem movesB_ok {ms : List (List (Nat × Nat))} (h : MovesOk ms) : movesB (encM ms) = true := movesB_iff.mpr ⟨ms, h, rfl⟩
/-! ### depths -/
theorem depAll_le {n : Nat} : ∀ {xs : List D}, (∀ x ∈ xs, dep x ≤ n) → depAll xs ≤ n
  | [], _ => by simp [depAll]
  | x :: xs, h => by
    rw [depAll]
    have h1 := h x List.mem_cons_self
    have h2 := depAll_le (n := n) (xs := xs) fun y hy => h y (List.mem_cons_of_mem _ hy)
    omega
theorem depAll_mem {n : Nat} : ∀ {xs : List D}, depAll xs ≤ n → ∀ x ∈ xs, dep x ≤ n
  | x :: xs, h, y, hy => by
    rw [depAll] at h
    rcases List.mem_cons.mp hy with rfl | hy
    · omega
    · exact depAll_mem (by omega) y hy
theorem dep_encP (p : Nat × Nat) : dep (encP p) ≤ 1 := by simp [encP, dep, depAll]
theorem dep_encR (r : List (Nat × Nat)) : dep (encR r) ≤ 2 := by
  rw [encR, dep]
  have := depAll_le (n := 1) (xs := r.map encP) fun x hx => by
    obtain ⟨p, _, rfl⟩ := List.mem_map.mp hx
    exact dep_encP p
  omega
theorem dep_encM (ms : List (List (Nat × Nat))) : dep (encM ms) ≤ 3 := by
  rw [encM, dep]
  have := depAll_le (n := 2) (xs := ms.map encR) fun x hx => by
    obtain ⟨p, _, rfl⟩ := List.mem_map.mp hx
    exact dep_encR p
  omega
theorem okD_of {d : D} (h : dep d ≤ 64) : okD d = true := decide_eq_true h
theorem pyEq_row (r : List (Nat × Nat)) : pyEq (encR r) (.tuple []) = some (decide (r = [])) := by
  unfold pyEq
  rw [okD_of (Nat.le_trans (dep_encR r) (by omega)), okD_of (by simp [dep, depAll])]
  cases r with
  | nil => simp [encR, PyData.eqv, PyData.eqvAll]
  | cons p r => simp [encR, PyData.eqv, PyData.eqvAll]
/-! ### rest_states -/
def restsFrom : Nat → List (List (Nat × Nat)) → List Nat
  | _, [] => []
  | i, r :: ms => if r = [] then i :: restsFrom (i + 1) ms else restsFrom (i + 1) ms
def encN (xs : List Nat) : D := .tuple (xs.map fun (i : Nat) => .int i)
def restP (d : D) : Bool := match d with
  | .tuple [_, .tuple []] => true
  | _ => false
def fstD (d : D) : D := match d with
  | .tuple [a, _] => a
  | _ => .none
theorem rests_eq : ∀ (ms : List (List (Nat × Nat))) (i : Nat), ((enuD i (ms.map encR)).filter restP).map fstD = (restsFrom i ms).map fun (i : Nat) => .int i
  | [], _ => rfl
  | r :: ms, i => by
    have ih := rests_eq ms (i + 1)
    cases r with
    | nil =>
      simp only [List.map_cons, enuD, List.filter_cons, restsFrom]
      have e : restP (.tuple [.int i, encR []]) = true := rfl
      rw [e]
      simp only [if_true, List.map_cons]
      rw [ih]; rfl
    | cons p r =>
      simp only [List.map_cons, enuD, List.filter_cons, restsFrom]
      have e : restP (.tuple [.int i, encR (p :: r)]) = false := rfl
      rw [e]
      simp only [Bool.false_eq_true, if_false, reduceCtorEq]
      exact ih
theorem enu_mem : ∀ {xs : List D} {i : Nat} {p : D}, p ∈ enuD i xs → ∃ (j : Nat) (x : D), x ∈ xs ∧ p = .tuple [.int j, x]
  | [], _, _, h => by simp [enuD] at h
  | x :: xs, i, p, h => by
    rw [enuD, List.mem_cons] at h
    rcases h with rfl | h
    · exact ⟨i, x, List.mem_cons_self, rfl⟩
    · obtain ⟨j, y, h1, h2⟩ := enu_mem h
      exact ⟨j, y, List.mem_cons_of_mem _ h1, h2⟩
theorem f6 (k : Nat) (ms : List (List (Nat × Nat))) : callK P (k + 1) 6 [.v (encM ms)] = .ok (encN (restsFrom 0 ms)) false [.v (encM ms)] := by
  rw [callK_eq (cf := cf6) rfl rfl]
  have q0 : evE (P.ctx (callK P k)) q6_0 [.v (encM ms), .no, .no] = .ok (.n (.list ((restsFrom 0 ms).map fun (i : Nat) => .int i))) [.v (encM ms), .no, .no] := by
    refine lc_pure restP fstD (xs := enuD 0 (ms.map encR)) (env1 := [.v (encM ms), .no, .no]) ?_ (fun x hx => ?_) (rests_eq ms 0) rfl
    · simp [-List.map_map, Core.pyEq_int, Core.pyLt_int, Core.evSs, Core.evS.eq_1, Core.evS.eq_2, Core.evS.eq_3, Core.evS.eq_4, Core.evS.eq_5, Core.evS.eq_6, Core.evS.eq_7, Core.evS.eq_10, Core.evS.eq_11, Core.evS.eq_12, Core.evS.eq_13, Core.evS.eq_14, Core.evS.eq_15, Core.evE.eq_1, Core.evE.eq_2, Core.evE.eq_3, Core.evE.eq_4, Core.evE.eq_5, Core.evE.eq_6, Core.evE.eq_7, Core.evE.eq_8, Core.evE.eq_9, Core.evE.eq_10, Core.evE.eq_11, Core.evE.eq_12, Core.evE.eq_13, Core.evE.eq_14, Core.evE.eq_15, Core.evE.eq_16, Core.evEs, Core.evRs, Core.evC, Core.evI, Core.evT, Core.evV, Core.evHolds, Core.setAll, Core.Out.bind, Core.Out.ofO, Core.hold, Core.frz, Core.peek, Core.mk, Core.isLst, Core.isB, Core.do1, Core.do2, Core.doSl, Core.partD, Core.dupFree, Core.bors, Core.isOwn, Core.passArgs, Core.backArgs, Core.ctx_callf, Core.ctx_io, Core.ctx_turns, Core.finish, Core.handBack, Core.outPs, Core.entry, Core.bindT, Core.bindTs, Core.wipe, Core.back, Core.walkItems, Core.bound, Core.boolsOf, encM]
    · obtain ⟨j, y, h1, rfl⟩ := enu_mem hx
      obtain ⟨r, _, rfl⟩ := List.mem_map.mp h1
      refine ⟨[.v (encM ms), .v (.int j), .v (encR r)], rfl, ?_, fun _ => ?_, rfl⟩
      · simp [-List.map_map, Core.pyEq_int, Core.pyLt_int, Core.evSs, Core.evS.eq_1, Core.evS.eq_2, Core.evS.eq_3, Core.evS.eq_4, Core.evS.eq_5, Core.evS.eq_6, Core.evS.eq_7, Core.evS.eq_10, Core.evS.eq_11, Core.evS.eq_12, Core.evS.eq_13, Core.evS.eq_14, Core.evS.eq_15, Core.evE.eq_1, Core.evE.eq_2, Core.evE.eq_3, Core.evE.eq_4, Core.evE.eq_5, Core.evE.eq_6, Core.evE.eq_7, Core.evE.eq_8, Core.evE.eq_9, Core.evE.eq_10, Core.evE.eq_11, Core.evE.eq_12, Core.evE.eq_13, Core.evE.eq_14, Core.evE.eq_15, Core.evE.eq_16, Core.evEs, Core.evRs, Core.evC, Core.evI, Core.evT, Core.evV, Core.evHolds, Core.setAll, Core.Out.bind, Core.Out.ofO, Core.hold, Core.frz, Core.peek, Core.mk, Core.isLst, Core.isB, Core.do1, Core.do2, Core.doSl, Core.partD, Core.dupFree, Core.bors, Core.isOwn, Core.passArgs, Core.backArgs, Core.ctx_callf, Core.ctx_io, Core.ctx_turns, Core.finish, Core.handBack, Core.outPs, Core.entry, Core.bindT, Core.bindTs, Core.wipe, Core.back, Core.walkItems, Core.bound, Core.boolsOf, pyEq_row]
        cases r <;> simp [restP, encR]
      · simp [-List.map_map, Core.pyEq_int, Core.pyLt_int, Core.evSs, Core.evS.eq_1, Core.evS.eq_2, Core.evS.eq_3, Core.evS.eq_4, Core.evS.eq_5, Core.evS.eq_6, Core.evS.eq_7, Core.evS.eq_10, Core.evS.eq_11, Core.evS.eq_12, Core.evS.eq_13, Core.evS.eq_14, Core.evS.eq_15, Core.evE.eq_1, Core.evE.eq_2, Core.evE.eq_3, Core.evE.eq_4, Core.evE.eq_5, Core.evE.eq_6, Core.evE.eq_7, Core.evE.eq_8, Core.evE.eq_9, Core.evE.eq_10, Core.evE.eq_11, Core.evE.eq_12, Core.evE.eq_13, Core.evE.eq_14, Core.evE.eq_15, Core.evE.eq_16, Core.evEs, Core.evRs, Core.evC, Core.evI, Core.evT, Core.evV, Core.evHolds, Core.setAll, Core.Out.bind, Core.Out.ofO, Core.hold, Core.frz, Core.peek, Core.mk, Core.isLst, Core.isB, Core.do1, Core.do2, Core.doSl, Core.partD, Core.dupFree, Core.bors, Core.isOwn, Core.passArgs, Core.backArgs, Core.ctx_callf, Core.ctx_io, Core.ctx_turns, Core.finish, Core.handBack, Core.outPs, Core.entry, Core.bindT, Core.bindTs, Core.wipe, Core.back, Core.walkItems, Core.bound, Core.boolsOf, fstD]
  simp [-List.map_map, Core.pyEq_int, Core.pyLt_int, Core.evSs, Core.evS.eq_1, Core.evS.eq_2, Core.evS.eq_3, Core.evS.eq_4, Core.evS.eq_5, Core.evS.eq_6, Core.evS.eq_7, Core.evS.eq_10, Core.evS.eq_11, Core.evS.eq_12, Core.evS.eq_13, Core.evS.eq_14, Core.evS.eq_15, Core.evE.eq_1, Core.evE.eq_2, Core.evE.eq_3, Core.evE.eq_4, Core.evE.eq_5, Core.evE.eq_6, Core.evE.eq_7, Core.evE.eq_8, Core.evE.eq_9, Core.evE.eq_10, Core.evE.eq_11, Core.evE.eq_12, Core.evE.eq_13, Core.evE.eq_14, Core.evE.eq_15, Core.evE.eq_16, Core.evEs, Core.evRs, Core.evC, Core.evI, Core.evT, Core.evV, Core.evHolds, Core.setAll, Core.Out.bind, Core.Out.ofO, Core.hold, Core.frz, Core.peek, Core.mk, Core.isLst, Core.isB, Core.do1, Core.do2, Core.doSl, Core.partD, Core.dupFree, Core.bors, Core.isOwn, Core.passArgs, Core.backArgs, Core.ctx_callf, Core.ctx_io, Core.ctx_turns, Core.finish, Core.handBack, Core.outPs, Core.entry, Core.bindT, Core.bindTs, Core.wipe, Core.back, Core.walkItems, Core.bound, Core.boolsOf, cf6, b6, q0, encN]
theorem f8 (k : Nat) {ms : List (List (Nat × Nat))} (h : MovesOk ms) : callK P (k + 4) 8 [.v (encM ms)] = .ok .none false [.v (encM ms)] := by
  rw [callK_eq (cf := cf8) rfl rfl]
  simp [-List.map_map, Core.pyEq_int, Core.pyLt_int, Core.evSs, Core.evS.eq_1, Core.evS.eq_2, Core.evS.eq_3, Core.evS.eq_4, Core.evS.eq_5, Core.evS.eq_6, Core.evS.eq_7, Core.evS.eq_10, Core.evS.eq_11, Core.evS.eq_12, Core.evS.eq_13, Core.evS.eq_14, Core.evS.eq_15, Core.evE.eq_1, Core.evE.eq_2, Core.evE.eq_3, Core.evE.eq_4, Core.evE.eq_5, Core.evE.eq_6, Core.evE.eq_7, Core.evE.eq_8, Core.evE.eq_9, Core.evE.eq_10, Core.evE.eq_11, Core.evE.eq_12, Core.evE.eq_13, Core.evE.eq_14, Core.evE.eq_15, Core.evE.eq_16, Core.evEs, Core.evRs, Core.evC, Core.evI, Core.evT, Core.evV, Core.evHolds, Core.setAll, Core.Out.bind, Core.Out.ofO, Core.hold, Core.frz, Core.peek, Core.mk, Core.isLst, Core.isB, Core.do1, Core.do2, Core.doSl, Core.partD, Core.dupFree, Core.bors, Core.isOwn, Core.passArgs, Core.backArgs, Core.ctx_callf, Core.ctx_io, Core.ctx_turns, Core.finish, Core.handBack, Core.outPs, Core.entry, Core.bindT, Core.bindTs, Core.wipe, Core.back, Core.walkItems, Core.bound, Core.boolsOf, cf8, b8, f5, movesB_ok h]
theorem f9 (k : Nat) {ms : List (List (Nat × Nat))} (h : MovesOk ms) {x : Nat} (hx : x < ms.length) : callK P (k + 5) 9 [.v (encM ms), .v (.int x)] = .ok .none false [.v (encM ms), .v (.int x)] := by
  rw [callK_eq (cf := cf9) rfl rfl]
  have e : encM ms = .tuple (ms.map encR) := rfl
  have h8 := f8 k h
  rw [e] at h8 ⊢
  have e2 : pWhole (.int x) 0 (((ms.map encR).length : Int) - 1) = true := by
    simp [pWhole]
    omega
  rw [List.length_map] at e2
  simp [-List.map_map, Core.pyEq_int, Core.pyLt_int, Core.evSs, Core.evS.eq_1, Core.evS.eq_2, Core.evS.eq_3, Core.evS.eq_4, Core.evS.eq_5, Core.evS.eq_6, Core.evS.eq_7, Core.evS.eq_10, Core.evS.eq_11, Core.evS.eq_12, Core.evS.eq_13, Core.evS.eq_14, Core.evS.eq_15, Core.evE.eq_1, Core.evE.eq_2, Core.evE.eq_3, Core.evE.eq_4, Core.evE.eq_5, Core.evE.eq_6, Core.evE.eq_7, Core.evE.eq_8, Core.evE.eq_9, Core.evE.eq_10, Core.evE.eq_11, Core.evE.eq_12, Core.evE.eq_13, Core.evE.eq_14, Core.evE.eq_15, Core.evE.eq_16, Core.evEs, Core.evRs, Core.evC, Core.evI, Core.evT, Core.evV, Core.evHolds, Core.setAll, Core.Out.bind, Core.Out.ofO, Core.hold, Core.frz, Core.peek, Core.mk, Core.isLst, Core.isB, Core.do1, Core.do2, Core.doSl, Core.partD, Core.dupFree, Core.bors, Core.isOwn, Core.passArgs, Core.backArgs, Core.ctx_callf, Core.ctx_io, Core.ctx_turns, Core.finish, Core.handBack, Core.outPs, Core.entry, Core.bindT, Core.bindTs, Core.wipe, Core.back, Core.walkItems, Core.bound, Core.boolsOf, cf9, b9, h8, f0, e2]
theorem f10 (k : Nat) {ms : List (List (Nat × Nat))} (h : MovesOk ms) : callK P (k + 5) 10 [.v (encM ms)] = .ok (encN (restsFrom 0 ms)) false [.v (encM ms)] := by
  rw [callK_eq (cf := cf10) rfl rfl]
  simp [-List.map_map, Core.pyEq_int, Core.pyLt_int, Core.evSs, Core.evS.eq_1, Core.evS.eq_2, Core.evS.eq_3, Core.evS.eq_4, Core.evS.eq_5, Core.evS.eq_6, Core.evS.eq_7, Core.evS.eq_10, Core.evS.eq_11, Core.evS.eq_12, Core.evS.eq_13, Core.evS.eq_14, Core.evS.eq_15, Core.evE.eq_1, Core.evE.eq_2, Core.evE.eq_3, Core.evE.eq_4, Core.evE.eq_5, Core.evE.eq_6, Core.evE.eq_7, Core.evE.eq_8, Core.evE.eq_9, Core.evE.eq_10, Core.evE.eq_11, Core.evE.eq_12, Core.evE.eq_13, Core.evE.eq_14, Core.evE.eq_15, Core.evE.eq_16, Core.evEs, Core.evRs, Core.evC, Core.evI, Core.evT, Core.evV, Core.evHolds, Core.setAll, Core.Out.bind, Core.Out.ofO, Core.hold, Core.frz, Core.peek, Core.mk, Core.isLst, Core.isB, Core.do1, Core.do2, Core.doSl, Core.partD, Core.dupFree, Core.bors, Core.isOwn, Core.passArgs, Core.backArgs, Core.ctx_callf, Core.ctx_io, Core.ctx_turns, Core.finish, Core.handBack, Core.outPs, Core.entry, Core.bindT, Core.bindTs, Core.wipe, Core.back, Core.walkItems, Core.bound, Core.boolsOf, cf10, b10, f8 k h, f6]
end C65
end Core
end

section
set_option linter.all false
set_option autoImplicit false
set_option maxRecDepth 100000
namespace Core
open PySem PySem.W
/-! ### breadth-first search, in plain words -/
namespace B
abbrev Mv := List (List (Nat × Nat))
abbrev F := List (Nat × List Nat)
def row (ms : Mv) (h : Nat) : List (Nat × Nat) := ms[h]?.getD []
def has (f : F) (x : Nat) : Bool := f.any fun p => p.1 == x
def way (f : F) (x : Nat) : List Nat := ((f.find? fun p => p.1 == x).map (·.2)).getD []
/-- one move looked at, from h -/
def stp (h : Nat) (s : F × List Nat) (p : Nat × Nat) : F × List Nat := if has s.1 p.2 then s else (s.1 ++ [(p.2, way s.1 h ++ [p.1])], s.2 ++ [p.2])
def her (ms : Mv) (s : F × List Nat) (h : Nat) : F × List Nat := (row ms h).foldl (stp h) s
def lvl (ms : Mv) (f : F) (line : List Nat) : F × List Nat := line.foldl (her ms) (f, [])
/-- all ways of t moves from s -/
def ex (ms : Mv) (q : List Nat × Nat) : List (List Nat × Nat) := (row ms q.2).map fun p => (q.1 ++ [p.1], p.2)
def L (ms : Mv) (s : Nat) : Nat → List (List Nat × Nat)
  | 0 => [([], s)]
  | t + 1 => (L ms s t).flatMap (ex ms)
def LL (ms : Mv) (s : Nat) : Nat → List (List Nat × Nat)
  | 0 => L ms s 0
  | t + 1 => LL ms s t ++ L ms s (t + 1)
def add1 (f : F) (q : List Nat × Nat) : F := if has f q.2 then f else f ++ [(q.2, q.1)]
def addAll (f : F) (l : List (List Nat × Nat)) : F := l.foldl add1 f
def newOf (f : F) : List (List Nat × Nat) → List (List Nat × Nat)
  | [] => []
  | q :: l => if has f q.2 then newOf f l else q :: newOf (f ++ [(q.2, q.1)]) l
theorem newOf_cons (f : F) (q : List Nat × Nat) (l : List (List Nat × Nat)) : newOf f (q :: l) = if has f q.2 then newOf f l else q :: newOf (f ++ [(q.2, q.1)]) l := rfl
theorem has_app (f g : F) (x : Nat) : has (f ++ g) x = (has f x || has g x) := List.any_append
theorem has_one (x y : Nat) (w : List Nat) : has [(y, w)] x = (y == x) := by simp [has]
theorem addAll_app (f : F) (l m : List (List Nat × Nat)) : addAll f (l ++ m) = addAll (addAll f l) m := List.foldl_append
theorem addAll_new : ∀ (l : List (List Nat × Nat)) (f : F), addAll f l = f ++ (newOf f l).map fun q => (q.2, q.1)
  | [], f => by simp [addAll, newOf]
  | q :: l, f => by
    have ih := addAll_new l
    show addAll (add1 f q) l = _
    unfold add1 newOf
    cases e : has f q.2 with
    | true => simp only [if_true]; exact ih f
    | false =>
      simp only [Bool.false_eq_true, if_false, List.map_cons]
      rw [ih, List.append_assoc]
      rfl
theorem has_addAll : ∀ (l : List (List Nat × Nat)) (f : F) (x : Nat), has (addAll f l) x = (has f x || l.any fun q => q.2 == x)
  | [], f, x => by simp [addAll]
  | q :: l, f, x => by
    show has (addAll (add1 f q) l) x = _
    rw [has_addAll l, List.any_cons, ← Bool.or_assoc]
    congr 1
    unfold add1
    cases e : has f q.2 with
    | true =>
      simp only [if_true]
      by_cases h : q.2 = x
      · rw [← h, e]; rfl
      · simp [h]
    | false =>
      simp only [Bool.false_eq_true, if_false]
      rw [has_app, has_one]
theorem way_app {f g : F} {x : Nat} (h : has f x = true) : way (f ++ g) x = way f x := by
  unfold way
  rw [List.find?_append]
  have : (f.find? fun p => p.1 == x).isSome = true := by
    rw [List.find?_isSome]
    obtain ⟨p, h1, h2⟩ := List.any_eq_true.mp h
    exact ⟨p, h1, h2⟩
  cases e : f.find? fun p => p.1 == x with
  | none => rw [e] at this; cases this
  | some p => rfl
theorem noop : ∀ (l : List (List Nat × Nat)) (f : F), (∀ q ∈ l, has f q.2 = true) → addAll f l = f
  | [], _, _ => rfl
  | q :: l, f, h => by
    show addAll (add1 f q) l = f
    unfold add1
    rw [if_pos (h q List.mem_cons_self)]
    exact noop l f fun p hp => h p (List.mem_cons_of_mem _ hp)
theorem has_mono {f : F} {l : List (List Nat × Nat)} {x : Nat} (h : has f x = true) : has (addAll f l) x = true := by rw [has_addAll, h]; rfl
/-- what was reached before tells nothing new -/
theorem only_new (ms : Mv) : ∀ (l : List (List Nat × Nat)) (g acc : F), (∀ h, has g h = true → ∀ p ∈ row ms h, has acc p.2 = true) → addAll acc (l.flatMap (ex ms)) = addAll acc ((newOf g l).flatMap (ex ms))
  | [], g, acc, _ => rfl
  | q :: l, g, acc, hc => by
    rw [List.flatMap_cons, addAll_app]
    unfold newOf
    cases e : has g q.2 with
    | true =>
      simp only [if_true]
      rw [noop (ex ms q) acc fun z hz => by
        obtain ⟨p, hp, rfl⟩ := List.mem_map.mp hz
        exact hc q.2 e p hp]
      exact only_new ms l g acc hc
    | false =>
      simp only [Bool.false_eq_true, if_false]
      rw [List.flatMap_cons, addAll_app]
      refine only_new ms l _ _ fun h hh p hp => ?_
      rw [has_app, has_one, Bool.or_eq_true] at hh
      rcases hh with hh | hh
      · exact has_mono (hc h hh p hp)
      · have : q.2 = h := by simpa using hh
        subst this
        rw [has_addAll, Bool.or_eq_true]
        right
        rw [List.any_eq_true]
        exact ⟨(q.1 ++ [p.1], p.2), List.mem_map.mpr ⟨p, hp, rfl⟩, by simp⟩
/-- one state's moves, as ways -/
theorem her_eq (ms : Mv) (w : List Nat) (h : Nat) : ∀ (r : List (Nat × Nat)) (f : F) (fr : List Nat), has f h = true → way f h = w →
    r.foldl (stp h) (f, fr) = (addAll f (r.map fun p => (w ++ [p.1], p.2)), fr ++ (newOf f (r.map fun p => (w ++ [p.1], p.2))).map (·.2))
  | [], f, fr, _, _ => by simp [addAll, newOf]
  | p :: r, f, fr, h1, h2 => by
    rw [List.foldl_cons, List.map_cons, newOf_cons]
    have es : stp h (f, fr) p = if has f p.2 then (f, fr) else (f ++ [(p.2, way f h ++ [p.1])], fr ++ [p.2]) := rfl
    rw [es]
    show _ = (addAll (add1 f _) _, _)
    unfold add1
    dsimp only
    cases e : has f p.2 with
    | true =>
      simp only [if_true]
      exact her_eq ms w h r f fr h1 h2
    | false =>
      simp only [Bool.false_eq_true, if_false]
      have h3 : has (f ++ [(p.2, w ++ [p.1])]) h = true := by rw [has_app, h1]; rfl
      have h4 : way (f ++ [(p.2, w ++ [p.1])]) h = w := by rw [way_app h1, h2]
      rw [h2]
      rw [her_eq ms w h r _ _ h3 h4]
      simp [List.append_assoc]
theorem newOf_app : ∀ (l m : List (List Nat × Nat)) (f : F), newOf f (l ++ m) = newOf f l ++ newOf (addAll f l) m
  | [], _, _ => rfl
  | q :: l, m, f => by
    rw [List.cons_append]
    show _ = _ ++ newOf (addAll (add1 f q) l) m
    rw [newOf_cons, newOf_cons]
    unfold add1
    cases e : has f q.2 with
    | true => simp only [if_true]; exact newOf_app l m f
    | false =>
      simp only [Bool.false_eq_true, if_false, List.cons_append]
      rw [newOf_app l m]
/-- a level -/
theorem lvl_eq (ms : Mv) : ∀ (N : List (List Nat × Nat)) (f : F) (fr : List Nat), (∀ q ∈ N, has f q.2 = true ∧ way f q.2 = q.1) →
    (N.map (·.2)).foldl (her ms) (f, fr) = (addAll f (N.flatMap (ex ms)), fr ++ (newOf f (N.flatMap (ex ms))).map (·.2))
  | [], f, fr, _ => by simp [addAll, newOf]
  | q :: N, f, fr, h => by
    obtain ⟨h1, h2⟩ := h q List.mem_cons_self
    rw [List.map_cons, List.foldl_cons]
    have e : her ms (f, fr) q.2 = _ := her_eq ms q.1 q.2 (row ms q.2) f fr h1 h2
    rw [e, lvl_eq ms N _ _ fun z hz => by
      obtain ⟨h3, h4⟩ := h z (List.mem_cons_of_mem _ hz)
      refine ⟨has_mono h3, ?_⟩
      rw [addAll_new, way_app h3, h4]]
    rw [List.flatMap_cons]
    unfold ex
    rw [addAll_app, newOf_app, List.map_append, List.append_assoc]

/-! levels -/
def PP (ms : Mv) (s : Nat) : Nat → List (List Nat × Nat)
  | 0 => []
  | t + 1 => PP ms s t ++ L ms s t
/-- what is found before level t -/
def G (ms : Mv) (s t : Nat) : F := addAll [] (PP ms s t)
/-- what is new at level t -/
def N (ms : Mv) (s t : Nat) : List (List Nat × Nat) := newOf (G ms s t) (L ms s t)
theorem G_succ (ms : Mv) (s t : Nat) : G ms s (t + 1) = addAll (G ms s t) (L ms s t) := addAll_app _ _ _
theorem G_new (ms : Mv) (s t : Nat) : G ms s (t + 1) = G ms s t ++ (N ms s t).map fun q => (q.2, q.1) := by
  rw [G_succ, addAll_new]; rfl
theorem mem_PP {ms : Mv} {s : Nat} {q : List Nat × Nat} : ∀ {t : Nat}, q ∈ PP ms s t ↔ ∃ u, u < t ∧ q ∈ L ms s u
  | 0 => ⟨(fun h => by cases h), fun ⟨u, h, _⟩ => by omega⟩
  | t + 1 => by
    rw [PP, List.mem_append, mem_PP]
    refine ⟨fun h => ?_, fun ⟨u, h1, h2⟩ => ?_⟩
    · rcases h with ⟨u, h1, h2⟩ | h
      · exact ⟨u, by omega, h2⟩
      · exact ⟨t, by omega, h⟩
    · by_cases e : u = t
      · rw [e] at h2; exact .inr h2
      · exact .inl ⟨u, by omega, h2⟩
theorem has_G {ms : Mv} {s t x : Nat} : has (G ms s t) x = true ↔ ∃ u w, u < t ∧ (w, x) ∈ L ms s u := by
  unfold G
  rw [has_addAll, Bool.or_eq_true, List.any_eq_true]
  refine ⟨fun h => ?_, fun ⟨u, w, h1, h2⟩ => .inr ⟨(w, x), mem_PP.mpr ⟨u, h1, h2⟩, by simp⟩⟩
  rcases h with h | ⟨q, h1, h2⟩
  · cases h
  · obtain ⟨u, h3, h4⟩ := mem_PP.mp h1
    have : q.2 = x := by simpa using h2
    subst this
    exact ⟨u, q.1, h3, h4⟩
theorem closed (ms : Mv) (s t : Nat) (h : Nat) (hh : has (G ms s t) h = true) (p : Nat × Nat) (hp : p ∈ row ms h) : has (G ms s (t + 1)) p.2 = true := by
  obtain ⟨u, w, h1, h2⟩ := has_G.mp hh
  refine has_G.mpr ⟨u + 1, w ++ [p.1], by omega, ?_⟩
  exact List.mem_flatMap.mpr ⟨(w, h), h2, List.mem_map.mpr ⟨p, hp, rfl⟩⟩
theorem new_way : ∀ (l : List (List Nat × Nat)) (g : F), ∀ q ∈ newOf g l, has (addAll g l) q.2 = true ∧ way (addAll g l) q.2 = q.1
  | [], _, _, h => by cases h
  | p :: l, g, q, h => by
    rw [newOf_cons] at h
    show has (addAll (add1 g p) l) q.2 = true ∧ way (addAll (add1 g p) l) q.2 = q.1
    unfold add1
    cases e : has g p.2 with
    | true =>
      rw [e] at h
      simp only [if_true] at h ⊢
      exact new_way l g q h
    | false =>
      rw [e] at h
      simp only [Bool.false_eq_true, if_false] at h ⊢
      rcases List.mem_cons.mp h with rfl | h
      · have h1 : has (g ++ [(q.2, q.1)]) q.2 = true := by rw [has_app, has_one]; simp
        refine ⟨has_mono h1, ?_⟩
        rw [addAll_new, way_app h1]
        unfold way
        have e2 : g.find? (fun p => p.1 == q.2) = none := by
          rw [List.find?_eq_none]
          intro z hz hz2
          have : has g q.2 = true := List.any_eq_true.mpr ⟨z, hz, hz2⟩
          rw [e] at this
          cases this
        rw [List.find?_append, e2]
        simp
      · exact new_way l _ q h
theorem swap_inj {a b : List (List Nat × Nat)} (h : a.map (fun q => (q.2, q.1)) = b.map fun q => (q.2, q.1)) : a = b :=
  C65.map_inj (fun x y e => by
    have := Prod.mk.inj e
    exact Prod.ext this.2 this.1) h
theorem newOf_cong {f : F} {a b : List (List Nat × Nat)} (h : addAll f a = addAll f b) : newOf f a = newOf f b := by
  rw [addAll_new, addAll_new] at h
  exact swap_inj (List.append_cancel_left h)
/-- the search's level is the level -/
theorem lvl_G (ms : Mv) (s t : Nat) : lvl ms (G ms s (t + 1)) ((N ms s t).map (·.2)) = (G ms s (t + 2), (N ms s (t + 1)).map (·.2)) := by
  have e1 := lvl_eq ms (N ms s t) (G ms s (t + 1)) [] fun q hq => by
    rw [G_succ]
    exact new_way _ _ q hq
  have e2 : addAll (G ms s (t + 1)) (L ms s (t + 1)) = addAll (G ms s (t + 1)) ((N ms s t).flatMap (ex ms)) := only_new ms (L ms s t) (G ms s t) (G ms s (t + 1)) (closed ms s t)
  show (List.map (·.2) (N ms s t)).foldl (her ms) (G ms s (t + 1), []) = _
  rw [e1, ← newOf_cong e2, ← e2, List.nil_append, G_succ ms s (t + 1)]
  rfl
/-! counting -/
theorem pig : ∀ (n : Nat) (l : List Nat), l.Nodup → (∀ x ∈ l, x < n) → l.length ≤ n
  | 0, [], _, _ => Nat.le_refl _
  | 0, x :: l, _, h => absurd (h x List.mem_cons_self) (by omega)
  | n + 1, l, hd, h => by
    have h1 := pig n (l.erase n) (hd.erase n) fun x hx => by
      have h2 := (List.Nodup.mem_erase_iff hd).mp hx
      have := h x h2.2
      have := h2.1
      omega
    by_cases hn : n ∈ l
    · have := List.length_erase_of_mem hn
      omega
    · rw [List.erase_of_not_mem hn] at h1
      omega
theorem add1_nodup {f : F} {q : List Nat × Nat} (h : (f.map (·.1)).Nodup) : ((add1 f q).map (·.1)).Nodup := by
  unfold add1
  cases e : has f q.2 with
  | true => simpa using h
  | false =>
    simp only [Bool.false_eq_true, if_false, List.map_append, List.map_cons, List.map_nil]
    rw [List.nodup_append]
    refine ⟨h, by simp, fun a ha b hb e2 => ?_⟩
    rw [List.mem_singleton] at hb
    subst e2; subst hb
    obtain ⟨p, hp, hq⟩ := List.mem_map.mp ha
    have : has f q.2 = true := List.any_eq_true.mpr ⟨p, hp, by simp [hq]⟩
    rw [e] at this
    cases this
theorem addAll_nodup : ∀ (l : List (List Nat × Nat)) (f : F), (f.map (·.1)).Nodup → ((addAll f l).map (·.1)).Nodup
  | [], _, h => h
  | q :: l, f, h => addAll_nodup l _ (add1_nodup h)
/-- all moves stay inside -/
def In (ms : Mv) : Prop := ∀ h, ∀ p ∈ row ms h, p.2 < ms.length
theorem L_lt {ms : Mv} {s : Nat} (hi : In ms) (hs : s < ms.length) : ∀ (t : Nat), ∀ q ∈ L ms s t, q.2 < ms.length
  | 0, q, h => by
    have : q = ([], s) := by simpa [L] using h
    rw [this]; exact hs
  | t + 1, q, h => by
    obtain ⟨z, _, h2⟩ := List.mem_flatMap.mp h
    obtain ⟨p, h3, rfl⟩ := List.mem_map.mp h2
    exact hi _ p h3
theorem G_len {ms : Mv} {s : Nat} (hi : In ms) (hs : s < ms.length) (t : Nat) : (G ms s t).length ≤ ms.length := by
  have := pig ms.length ((G ms s t).map (·.1)) (addAll_nodup _ _ (by simp)) fun x hx => by
    obtain ⟨p, hp, rfl⟩ := List.mem_map.mp hx
    obtain ⟨u, w, _, h2⟩ := (has_G (x := p.1)).mp (List.any_eq_true.mpr ⟨p, hp, beq_self_eq_true _⟩)
    exact L_lt hi hs u _ h2
  rwa [List.length_map] at this
end B
end Core
end

section
set_option linter.all false
set_option autoImplicit false
set_option maxRecDepth 100000
namespace Core
open PySem PySem.W
namespace C65
open B
def encF (f : F) : List (D × D) := f.map fun p => (.int (p.1 : Int), encN p.2)
theorem look_F : ∀ (f : F) (x : Nat), lookD (.int (x : Int)) (encF f) = if has f x then some (encN (way f x)) else none
  | [], x => rfl
  | (y, w) :: f, x => by
    have ih := look_F f x
    show (if PyData.eqv (.int (y : Int)) (.int (x : Int)) then some (encN w) else lookD (.int (x : Int)) (encF f)) = _
    rw [ih]
    have e : PyData.eqv (.int (y : Int)) (.int (x : Int)) = (y == x) := by
      rw [Bool.eq_iff_iff]
      simp [PyData.eqv]
      omega
    rw [e]
    unfold has way
    rw [List.any_cons, List.find?_cons]
    cases h : (y == x) with
    | true => simp
    | false => simp only [Bool.false_eq_true, if_false, Bool.false_or]
theorem put_F {f : F} {x : Nat} (v : D) (h : has f x = false) : putD (.int (x : Int)) v (encF f) = encF f ++ [(.int (x : Int), v)] := by
  unfold putD
  have e : ((encF f).any fun p => PyData.eqv p.1 (.int (x : Int))) = false := by
    rw [Bool.eq_false_iff]
    intro h1
    obtain ⟨p, h2, h3⟩ := List.any_eq_true.mp h1
    obtain ⟨q, h4, rfl⟩ := List.mem_map.mp h2
    have : has f x = true := List.any_eq_true.mpr ⟨q, h4, by
      simp [PyData.eqv] at h3
      simp
      omega⟩
    rw [h] at this
    cases this
  rw [e]
  rfl
def intsN (xs : List Nat) : List D := xs.map fun (i : Nat) => .int (i : Int)
/-- what is kept of the search's state -/
structure Good (n : Nat) (f : F) : Prop where
  nd : (f.map (·.1)).Nodup
  lt : ∀ p ∈ f, p.1 < n
  ws : ∀ p ∈ f, p.2.length ≤ f.length
theorem Good.len {n : Nat} {f : F} (g : Good n f) : f.length ≤ n := by
  have := pig n _ g.nd fun x hx => by
    obtain ⟨p, hp, rfl⟩ := List.mem_map.mp hx
    exact g.lt p hp
  rwa [List.length_map] at this
theorem way_len {n : Nat} {f : F} (g : Good n f) (x : Nat) : (way f x).length ≤ f.length := by
  unfold way
  cases e : f.find? fun p => p.1 == x with
  | none => simp
  | some p => exact g.ws p (List.mem_of_find?_eq_some e)
theorem Good.snoc {n : Nat} {f : F} (g : Good n f) {x : Nat} {w : List Nat} (h : has f x = false) (hx : x < n) (hw : w.length ≤ f.length + 1) : Good n (f ++ [(x, w)]) := by
  refine ⟨?_, fun p hp => ?_, fun p hp => ?_⟩
  · have := add1_nodup (q := (w, x)) g.nd
    unfold add1 at this
    rw [h] at this
    simpa using this
  · rcases List.mem_append.mp hp with hp | hp
    · exact g.lt p hp
    · rw [List.mem_singleton] at hp; rw [hp]; exact hx
  · rw [List.length_append, List.length_singleton]
    rcases List.mem_append.mp hp with hp | hp
    · have := g.ws p hp; omega
    · rw [List.mem_singleton] at hp; rw [hp]; exact hw
theorem has_snoc {f : F} {x : Nat} {p : Nat × List Nat} (h : has f x = true) : has (f ++ [p]) x = true := by rw [has_app, h]; rfl
theorem intsN_snoc (xs : List Nat) (x : Nat) : intsN xs ++ [.int (x : Int)] = intsN (xs ++ [x]) := by simp [intsN]
theorem encF_snoc (f : F) (x : Nat) (w : List Nat) : encF f ++ [(.int (x : Int), encN w)] = encF (f ++ [(x, w)]) := by simp [encF]
theorem encN_def (w : List Nat) : encN w = .tuple (intsN w) := rfl
theorem intsN_len (w : List Nat) : (intsN w).length = w.length := List.length_map ..
theorem encF_len (f : F) : (encF f).length = f.length := List.length_map ..
theorem keyOk_int (i : Int) : keyOk (.int i) = true := rfl
theorem g7_1 (C : Ctx) (M S ln : Sl) (h n : Nat) (hn : n ≤ 300) : ∀ (r : List (Nat × Nat)) (f : F) (fr : List Nat) (s6 s7 : Sl), (∀ p ∈ r, p.2 < n) → Good n f → has f h = true → fr.length ≤ f.length →
    ∃ f' fr' t6 t7, r.foldl (stp h) (f, fr) = (f', fr') ∧ Good n f' ∧ (∀ x, has f x = true → has f' x = true) ∧ fr'.length ≤ f'.length ∧
      forGo (.tp [.nm 6, .nm 7]) (evSs C l7_1) (r.map encP) [M, S, .q (encF f), ln, .o (intsN fr), .v (.int (h : Int)), s6, s7] = .ok .next [M, S, .q (encF f'), ln, .o (intsN fr'), .v (.int (h : Int)), t6, t7]
  | [], f, fr, s6, s7, _, g, _, hl => ⟨f, fr, s6, s7, rfl, g, fun _ h => h, hl, rfl⟩
  | (o, x) :: r, f, fr, s6, s7, hr, g, hh, hl => by
    have hx : x < n := hr _ List.mem_cons_self
    have hr' : ∀ p ∈ r, p.2 < n := fun p hp => hr p (List.mem_cons_of_mem _ hp)
    have hg := g.len
    cases e : has f x with
    | true =>
      obtain ⟨f', fr', t6, t7, k1, k2, k3, k4, k5⟩ := g7_1 C M S ln h n hn r f fr (.v (.int o)) (.v (.int x)) hr' g hh hl
      refine ⟨f', fr', t6, t7, ?_, k2, k3, k4, ?_⟩
      · rw [List.foldl_cons]
        show List.foldl (stp h) (if has f x then (f, fr) else _) r = _
        rw [e]
        exact k1
      · rw [List.map_cons, forGo_next (env1 := [M, S, .q (encF f), ln, .o (intsN fr), .v (.int (h : Int)), .v (.int o), .v (.int x)]) (env2 := [M, S, .q (encF f), ln, .o (intsN fr), .v (.int (h : Int)), .v (.int o), .v (.int x)]) rfl (by
          simp [-List.map_map, Core.pyEq_int, Core.pyLt_int, Core.evSs, Core.evS.eq_1, Core.evS.eq_2, Core.evS.eq_3, Core.evS.eq_4, Core.evS.eq_5, Core.evS.eq_6, Core.evS.eq_7, Core.evS.eq_10, Core.evS.eq_11, Core.evS.eq_12, Core.evS.eq_13, Core.evS.eq_14, Core.evS.eq_15, Core.evE.eq_1, Core.evE.eq_2, Core.evE.eq_3, Core.evE.eq_4, Core.evE.eq_5, Core.evE.eq_6, Core.evE.eq_7, Core.evE.eq_8, Core.evE.eq_9, Core.evE.eq_10, Core.evE.eq_11, Core.evE.eq_12, Core.evE.eq_13, Core.evE.eq_14, Core.evE.eq_15, Core.evE.eq_16, Core.evEs, Core.evRs, Core.evC, Core.evI, Core.evT, Core.evV, Core.evHolds, Core.setAll, Core.Out.bind, Core.Out.ofO, Core.hold, Core.frz, Core.peek, Core.mk, Core.isLst, Core.isB, Core.do1, Core.do2, Core.doSl, Core.partD, Core.dupFree, Core.bors, Core.isOwn, Core.passArgs, Core.backArgs, Core.ctx_callf, Core.ctx_io, Core.ctx_turns, Core.finish, Core.handBack, Core.outPs, Core.entry, Core.bindT, Core.bindTs, Core.wipe, Core.back, Core.walkItems, Core.bound, Core.boolsOf, l7_1, keyOk_int, look_F, e]), k5]
    | false =>
      have hw := way_len g h
      obtain ⟨f', fr', t6, t7, k1, k2, k3, k4, k5⟩ := g7_1 C M S ln h n hn r (f ++ [(x, way f h ++ [o])]) (fr ++ [x]) (.v (.int o)) (.v (.int x)) hr' (g.snoc e hx (by rw [List.length_append, List.length_singleton]; omega)) (has_snoc hh) (by rw [List.length_append, List.length_append, List.length_singleton, List.length_singleton]; omega)
      refine ⟨f', fr', t6, t7, ?_, k2, fun y hy => k3 y (has_snoc hy), k4, ?_⟩
      · rw [List.foldl_cons]
        show List.foldl (stp h) (if has f x then (f, fr) else (f ++ [(x, way f h ++ [o])], fr ++ [x])) r = _
        rw [e]
        exact k1
      · rw [List.map_cons, forGo_next (env1 := [M, S, .q (encF f), ln, .o (intsN fr), .v (.int (h : Int)), .v (.int o), .v (.int x)]) (env2 := [M, S, .q (encF (f ++ [(x, way f h ++ [o])])), ln, .o (intsN (fr ++ [x])), .v (.int (h : Int)), .v (.int o), .v (.int x)]) rfl (by
          have q1 : (intsN (way f h)).length + 1 ≤ lineMax := by rw [intsN_len]; unfold lineMax; omega
          have q2 : (encF f).length < lineMax := by rw [encF_len]; unfold lineMax; omega
          have q3 : (intsN fr).length < lineMax := by rw [intsN_len]; unfold lineMax; omega
          have q4 : PyData.tuple (intsN (way f h) ++ [.int (o : Int)]) = encN (way f h ++ [o]) := by rw [encN_def, intsN_snoc]
          simp [-List.map_map, Core.pyEq_int, Core.pyLt_int, Core.evSs, Core.evS.eq_1, Core.evS.eq_2, Core.evS.eq_3, Core.evS.eq_4, Core.evS.eq_5, Core.evS.eq_6, Core.evS.eq_7, Core.evS.eq_10, Core.evS.eq_11, Core.evS.eq_12, Core.evS.eq_13, Core.evS.eq_14, Core.evS.eq_15, Core.evE.eq_1, Core.evE.eq_2, Core.evE.eq_3, Core.evE.eq_4, Core.evE.eq_5, Core.evE.eq_6, Core.evE.eq_7, Core.evE.eq_8, Core.evE.eq_9, Core.evE.eq_10, Core.evE.eq_11, Core.evE.eq_12, Core.evE.eq_13, Core.evE.eq_14, Core.evE.eq_15, Core.evE.eq_16, Core.evEs, Core.evRs, Core.evC, Core.evI, Core.evT, Core.evV, Core.evHolds, Core.setAll, Core.Out.bind, Core.Out.ofO, Core.hold, Core.frz, Core.peek, Core.mk, Core.isLst, Core.isB, Core.do1, Core.do2, Core.doSl, Core.partD, Core.dupFree, Core.bors, Core.isOwn, Core.passArgs, Core.backArgs, Core.ctx_callf, Core.ctx_io, Core.ctx_turns, Core.finish, Core.handBack, Core.outPs, Core.entry, Core.bindT, Core.bindTs, Core.wipe, Core.back, Core.walkItems, Core.bound, Core.boolsOf, l7_1, keyOk_int, look_F, e, hh, encN_def, q1, q2, q3]
          rw [q4, put_F _ e, encF_snoc, intsN_snoc]; exact ⟨rfl, rfl⟩), k5]
theorem row_at {ms : Mv} {h : Nat} (hh : h < ms.length) : atI (ms.map encR) (h : Int) = some (encR (row ms h)) := by
  have : ixN (ms.map encR).length (h : Int) = some h := by
    unfold ixN
    rw [List.length_map, if_pos (by omega), if_pos (by omega)]
    simp
  unfold atI
  rw [this]
  show (ms.map encR)[h]? = _
  rw [List.getElem?_map, List.getElem?_eq_getElem hh]
  unfold row
  rw [List.getElem?_eq_getElem hh]
  rfl
theorem g7_2 (C : Ctx) (S ln : Sl) (ms : Mv) (hi : In ms) (hn : ms.length ≤ 300) : ∀ (l : List Nat) (f : F) (fr : List Nat) (s5 s6 s7 : Sl), (∀ h ∈ l, h < ms.length ∧ has f h = true) → Good ms.length f → fr.length ≤ f.length →
    ∃ f' fr' t5 t6 t7, l.foldl (her ms) (f, fr) = (f', fr') ∧ Good ms.length f' ∧ fr'.length ≤ f'.length ∧
      forGo (.nm 5) (evSs C l7_2) (intsN l) [.v (encM ms), S, .q (encF f), ln, .o (intsN fr), s5, s6, s7] = .ok .next [.v (encM ms), S, .q (encF f'), ln, .o (intsN fr'), t5, t6, t7]
  | [], f, fr, s5, s6, s7, _, g, hl => ⟨f, fr, s5, s6, s7, rfl, g, hl, rfl⟩
  | h :: l, f, fr, s5, s6, s7, hh, g, hl => by
    obtain ⟨h1, h2⟩ := hh h List.mem_cons_self
    obtain ⟨f', fr', t6, t7, k1, k2, k3, k4, k5⟩ := g7_1 C (.v (encM ms)) S ln h ms.length hn (row ms h) f fr s6 s7 (hi h) g h2 hl
    obtain ⟨f2, fr2, u5, u6, u7, j1, j2, j3, j4⟩ := g7_2 C S ln ms hi hn l f' fr' (.v (.int h)) t6 t7 (fun x hx => let ⟨a, b⟩ := hh x (List.mem_cons_of_mem _ hx); ⟨a, k3 x b⟩) k2 k4
    refine ⟨f2, fr2, u5, u6, u7, ?_, j2, j3, ?_⟩
    · rw [List.foldl_cons]
      have : her ms (f, fr) h = (f', fr') := k1
      rw [this, j1]
    · have hI : evS C (.for_ (.tp [(.nm 6), (.nm 7)]) (.seq (.o2 .idx (.var 0) (.var 5))) l7_1) [.v (encM ms), S, .q (encF f), ln, .o (intsN fr), .v (.int h), s6, s7] = forGo (.tp [.nm 6, .nm 7]) (evSs C l7_1) ((row ms h).map encP) [.v (encM ms), S, .q (encF f), ln, .o (intsN fr), .v (.int h), s6, s7] := by
        rw [evS]
        have ra := row_at h1
        have e : encM ms = .tuple (ms.map encR) := rfl
        rw [e]
        simp [-List.map_map, Core.pyEq_int, Core.pyLt_int, Core.evSs, Core.evS.eq_1, Core.evS.eq_2, Core.evS.eq_3, Core.evS.eq_4, Core.evS.eq_5, Core.evS.eq_6, Core.evS.eq_7, Core.evS.eq_10, Core.evS.eq_11, Core.evS.eq_12, Core.evS.eq_13, Core.evS.eq_14, Core.evS.eq_15, Core.evE.eq_1, Core.evE.eq_2, Core.evE.eq_3, Core.evE.eq_4, Core.evE.eq_5, Core.evE.eq_6, Core.evE.eq_7, Core.evE.eq_8, Core.evE.eq_9, Core.evE.eq_10, Core.evE.eq_11, Core.evE.eq_12, Core.evE.eq_13, Core.evE.eq_14, Core.evE.eq_15, Core.evE.eq_16, Core.evEs, Core.evRs, Core.evC, Core.evI, Core.evT, Core.evV, Core.evHolds, Core.setAll, Core.Out.bind, Core.Out.ofO, Core.hold, Core.frz, Core.peek, Core.mk, Core.isLst, Core.isB, Core.do1, Core.do2, Core.doSl, Core.partD, Core.dupFree, Core.bors, Core.isOwn, Core.passArgs, Core.backArgs, Core.ctx_callf, Core.ctx_io, Core.ctx_turns, Core.finish, Core.handBack, Core.outPs, Core.entry, Core.bindT, Core.bindTs, Core.wipe, Core.back, Core.walkItems, Core.bound, Core.boolsOf, ra, encR]
      show forGo (.nm 5) (evSs C l7_2) (.int (h : Int) :: intsN l) _ = _
      rw [forGo_next (env1 := [.v (encM ms), S, .q (encF f), ln, .o (intsN fr), .v (.int (h : Int)), s6, s7]) (env2 := [.v (encM ms), S, .q (encF f'), ln, .o (intsN fr'), .v (.int (h : Int)), t6, t7]) rfl (by simp [-List.map_map, Core.pyEq_int, Core.pyLt_int, Core.evSs, Core.evS.eq_1, Core.evS.eq_2, Core.evS.eq_3, Core.evS.eq_4, Core.evS.eq_5, Core.evS.eq_6, Core.evS.eq_7, Core.evS.eq_10, Core.evS.eq_11, Core.evS.eq_12, Core.evS.eq_13, Core.evS.eq_14, Core.evS.eq_15, Core.evE.eq_1, Core.evE.eq_2, Core.evE.eq_3, Core.evE.eq_4, Core.evE.eq_5, Core.evE.eq_6, Core.evE.eq_7, Core.evE.eq_8, Core.evE.eq_9, Core.evE.eq_10, Core.evE.eq_11, Core.evE.eq_12, Core.evE.eq_13, Core.evE.eq_14, Core.evE.eq_15, Core.evE.eq_16, Core.evEs, Core.evRs, Core.evC, Core.evI, Core.evT, Core.evV, Core.evHolds, Core.setAll, Core.Out.bind, Core.Out.ofO, Core.hold, Core.frz, Core.peek, Core.mk, Core.isLst, Core.isB, Core.do1, Core.do2, Core.doSl, Core.partD, Core.dupFree, Core.bors, Core.isOwn, Core.passArgs, Core.backArgs, Core.ctx_callf, Core.ctx_io, Core.ctx_turns, Core.finish, Core.handBack, Core.outPs, Core.entry, Core.bindT, Core.bindTs, Core.wipe, Core.back, Core.walkItems, Core.bound, Core.boolsOf, l7_2, hI, k5]), j4]
theorem dep_intsN (xs : List Nat) : dep (.list (intsN xs)) ≤ 1 := by
  rw [dep]
  have := depAll_le (n := 0) (xs := intsN xs) fun x hx => by
    obtain ⟨p, _, rfl⟩ := List.mem_map.mp hx
    simp [dep]
  omega
theorem pyEq_nilL (xs : List Nat) : pyEq (.list (intsN xs)) (.list []) = some (decide (xs = [])) := by
  unfold pyEq
  rw [okD_of (Nat.le_trans (dep_intsN xs) (by omega)), okD_of (by simp [dep, depAll])]
  cases xs with
  | nil => simp [intsN, PyData.eqv, PyData.eqvAll]
  | cons p r => simp [intsN, PyData.eqv, PyData.eqvAll]
/-- the line, its own or not -/
def lnS (b : Bool) (l : List Nat) : Sl := if b then .o (intsN l) else .v (.list (intsN l))
theorem g7_3 (C : Ctx) (S : Sl) (ms : Mv) (hi : In ms) (hn : ms.length ≤ 300) (l : List Nat) (f : F) (b : Bool) (s4 s5 s6 s7 : Sl) (hl : ∀ h ∈ l, h < ms.length ∧ has f h = true) (g : Good ms.length f) :
    ∃ f' fr t4 t5 t6 t7, lvl ms f l = (f', fr) ∧ Good ms.length f' ∧ evSs C l7_3 [.v (encM ms), S, .q (encF f), lnS b l, s4, s5, s6, s7] = .ok .next [.v (encM ms), S, .q (encF f'), lnS false fr, t4, t5, t6, t7] := by
  obtain ⟨f', fr, t5, t6, t7, k1, k2, k3, k4⟩ := g7_2 C S (.v (.list (intsN l))) ms hi hn l f [] s5 s6 s7 hl g (by simp)
  refine ⟨f', fr, .v (.list (intsN fr)), t5, t6, t7, k1, k2, ?_⟩
  have k4' : forGo (.nm 5) (evSs C l7_2) (intsN l) [.v (encM ms), S, .q (encF f), .v (.list (intsN l)), .o [], s5, s6, s7] = _ := k4
  have hI : evS C (.for_ (.nm 5) (.seq (.var 3)) l7_2) [.v (encM ms), S, .q (encF f), lnS b l, .o [], s5, s6, s7] = forGo (.nm 5) (evSs C l7_2) (intsN l) [.v (encM ms), S, .q (encF f), .v (.list (intsN l)), .o [], s5, s6, s7] := by
    rw [evS]
    cases b <;> simp [-List.map_map, Core.pyEq_int, Core.pyLt_int, Core.evSs, Core.evS.eq_1, Core.evS.eq_2, Core.evS.eq_3, Core.evS.eq_4, Core.evS.eq_5, Core.evS.eq_6, Core.evS.eq_7, Core.evS.eq_10, Core.evS.eq_11, Core.evS.eq_12, Core.evS.eq_13, Core.evS.eq_14, Core.evS.eq_15, Core.evE.eq_1, Core.evE.eq_2, Core.evE.eq_3, Core.evE.eq_4, Core.evE.eq_5, Core.evE.eq_6, Core.evE.eq_7, Core.evE.eq_8, Core.evE.eq_9, Core.evE.eq_10, Core.evE.eq_11, Core.evE.eq_12, Core.evE.eq_13, Core.evE.eq_14, Core.evE.eq_15, Core.evE.eq_16, Core.evEs, Core.evRs, Core.evC, Core.evI, Core.evT, Core.evV, Core.evHolds, Core.setAll, Core.Out.bind, Core.Out.ofO, Core.hold, Core.frz, Core.peek, Core.mk, Core.isLst, Core.isB, Core.do1, Core.do2, Core.doSl, Core.partD, Core.dupFree, Core.bors, Core.isOwn, Core.passArgs, Core.backArgs, Core.ctx_callf, Core.ctx_io, Core.ctx_turns, Core.finish, Core.handBack, Core.outPs, Core.entry, Core.bindT, Core.bindTs, Core.wipe, Core.back, Core.walkItems, Core.bound, Core.boolsOf, lnS]
  simp [-List.map_map, Core.pyEq_int, Core.pyLt_int, Core.evSs, Core.evS.eq_1, Core.evS.eq_2, Core.evS.eq_3, Core.evS.eq_4, Core.evS.eq_5, Core.evS.eq_6, Core.evS.eq_7, Core.evS.eq_10, Core.evS.eq_11, Core.evS.eq_12, Core.evS.eq_13, Core.evS.eq_14, Core.evS.eq_15, Core.evE.eq_1, Core.evE.eq_2, Core.evE.eq_3, Core.evE.eq_4, Core.evE.eq_5, Core.evE.eq_6, Core.evE.eq_7, Core.evE.eq_8, Core.evE.eq_9, Core.evE.eq_10, Core.evE.eq_11, Core.evE.eq_12, Core.evE.eq_13, Core.evE.eq_14, Core.evE.eq_15, Core.evE.eq_16, Core.evEs, Core.evRs, Core.evC, Core.evI, Core.evT, Core.evV, Core.evHolds, Core.setAll, Core.Out.bind, Core.Out.ofO, Core.hold, Core.frz, Core.peek, Core.mk, Core.isLst, Core.isB, Core.do1, Core.do2, Core.doSl, Core.partD, Core.dupFree, Core.bors, Core.isOwn, Core.passArgs, Core.backArgs, Core.ctx_callf, Core.ctx_io, Core.ctx_turns, Core.finish, Core.handBack, Core.outPs, Core.entry, Core.bindT, Core.bindTs, Core.wipe, Core.back, Core.walkItems, Core.bound, Core.boolsOf, l7_3, hI, k4']
  rfl
theorem g7_t (C : Ctx) (S M : Sl) (f : F) (l : List Nat) (b : Bool) (s4 s5 s6 s7 : Sl) : evT C t7_0 [M, S, .q (encF f), lnS b l, s4, s5, s6, s7] = .ok (decide (l ≠ [])) [M, S, .q (encF f), lnS b l, s4, s5, s6, s7] := by
  cases b <;> simp [-List.map_map, Core.pyEq_int, Core.pyLt_int, Core.evSs, Core.evS.eq_1, Core.evS.eq_2, Core.evS.eq_3, Core.evS.eq_4, Core.evS.eq_5, Core.evS.eq_6, Core.evS.eq_7, Core.evS.eq_10, Core.evS.eq_11, Core.evS.eq_12, Core.evS.eq_13, Core.evS.eq_14, Core.evS.eq_15, Core.evE.eq_1, Core.evE.eq_2, Core.evE.eq_3, Core.evE.eq_4, Core.evE.eq_5, Core.evE.eq_6, Core.evE.eq_7, Core.evE.eq_8, Core.evE.eq_9, Core.evE.eq_10, Core.evE.eq_11, Core.evE.eq_12, Core.evE.eq_13, Core.evE.eq_14, Core.evE.eq_15, Core.evE.eq_16, Core.evEs, Core.evRs, Core.evC, Core.evI, Core.evT, Core.evV, Core.evHolds, Core.setAll, Core.Out.bind, Core.Out.ofO, Core.hold, Core.frz, Core.peek, Core.mk, Core.isLst, Core.isB, Core.do1, Core.do2, Core.doSl, Core.partD, Core.dupFree, Core.bors, Core.isOwn, Core.passArgs, Core.backArgs, Core.ctx_callf, Core.ctx_io, Core.ctx_turns, Core.finish, Core.handBack, Core.outPs, Core.entry, Core.bindT, Core.bindTs, Core.wipe, Core.back, Core.walkItems, Core.bound, Core.boolsOf, t7_0, lnS, pyEq_nilL]
/-- the loop: at level t -/
theorem g7_w (C : Ctx) (S : Sl) (ms : Mv) (hi : In ms) (hn : ms.length ≤ 300) (s : Nat) (hs : s < ms.length) : ∀ (m t fuel : Nat) (b : Bool) (s4 s5 s6 s7 : Sl), ms.length < t + m → m < fuel → Good ms.length (G ms s (t + 1)) → t ≤ (G ms s t).length →
    ∃ t' t3 t4 t5 t6 t7, (N ms s t' = []) ∧ t ≤ t' ∧ t' ≤ ms.length ∧ Good ms.length (G ms s (t' + 1)) ∧ whileGo (evT C t7_0) (evSs C l7_3) fuel [.v (encM ms), S, .q (encF (G ms s (t + 1))), lnS b ((N ms s t).map (·.2)), s4, s5, s6, s7] = .ok .next [.v (encM ms), S, .q (encF (G ms s (t' + 1))), t3, t4, t5, t6, t7]
  | m, t, 0, b, s4, s5, s6, s7, h1, h2, h3, h4 => by omega
  | 0, t, fuel + 1, b, s4, s5, s6, s7, h1, h2, h3, h4 => by
    have := G_len hi hs t
    omega
  | m + 1, t, fuel + 1, b, s4, s5, s6, s7, h1, h2, h3, h4 => by
    by_cases e : N ms s t = []
    · refine ⟨t, lnS b ((N ms s t).map (·.2)), s4, s5, s6, s7, e, Nat.le_refl _, by have := G_len hi hs t; omega, h3, ?_⟩
      exact whileGo_end (by rw [g7_t, e]; rfl)
    · have hN : ∀ h ∈ (N ms s t).map (·.2), h < ms.length ∧ has (G ms s (t + 1)) h = true := fun h hh => by
        obtain ⟨q, hq, rfl⟩ := List.mem_map.mp hh
        have k := (new_way _ _ q hq).1
        rw [← G_succ] at k
        obtain ⟨u, w, _, h6⟩ := has_G.mp k
        exact ⟨L_lt hi hs u (w, q.2) h6, k⟩
      obtain ⟨f', fr, t4, t5, t6, t7, k1, k2, k3⟩ := g7_3 C S ms hi hn ((N ms s t).map (·.2)) (G ms s (t + 1)) b s4 s5 s6 s7 hN h3
      rw [lvl_G] at k1
      obtain ⟨rfl, rfl⟩ := Prod.mk.inj k1
      have hlen : t + 1 ≤ (G ms s (t + 1)).length := by
        rw [G_new, List.length_append, List.length_map]
        have : 0 < (N ms s t).length := List.length_pos_iff.mpr e
        omega
      obtain ⟨t', u3, u4, u5, u6, u7, j1, j2, j3, j4, j5⟩ := g7_w C S ms hi hn s hs m (t + 1) fuel false t4 t5 t6 t7 (by omega) (by omega) k2 hlen
      refine ⟨t', u3, u4, u5, u6, u7, j1, by omega, j3, j4, ?_⟩
      rw [whileGo_go (env1 := [.v (encM ms), S, .q (encF (G ms s (t + 1))), lnS b ((N ms s t).map (·.2)), s4, s5, s6, s7]) (env2 := [.v (encM ms), S, .q (encF (G ms s (t + 1 + 1))), lnS false ((N ms s (t + 1)).map (·.2)), t4, t5, t6, t7]) (by
        rw [g7_t]
        have : (N ms s t).map (·.2) ≠ [] := by simpa using e
        rw [decide_eq_true this]) k3]
      exact j5
theorem good1 {n s : Nat} (hs : s < n) : Good n [(s, [])] := ⟨by simp, fun p hp => by rw [List.mem_singleton] at hp; rw [hp]; exact hs, fun p hp => by rw [List.mem_singleton] at hp; rw [hp]; simp⟩
theorem f7 (k : Nat) (ms : Mv) (hi : In ms) (hn : ms.length ≤ 300) (s : Nat) (hs : s < ms.length) : ∃ t, N ms s t = [] ∧ 1 ≤ t ∧ t ≤ ms.length ∧ callK P (k + 1) 7 [.v (encM ms), .v (.int (s : Int))] = .ok (.dict (encF (G ms s (t + 1)))) true [.v (encM ms), .v (.int (s : Int))] := by
  rw [callK_eq (cf := cf7) rfl rfl]
  have e0 : G ms s 1 = [(s, [])] := rfl
  obtain ⟨t', t3, t4, t5, t6, t7, j1, j2, j3, j4, j5⟩ := g7_w (P.ctx (callK P k)) (.v (.int (s : Int))) ms hi hn s hs (ms.length + 1) 0 1000000 true .no .no .no .no (by omega) (by omega) (by rw [e0]; exact good1 hs) (by omega)
  refine ⟨t', j1, ?_, j3, ?_⟩
  · cases t' with
    | zero => cases j1
    | succ t => omega
  · have hI : evS (P.ctx (callK P k)) (.whl t7_0 l7_3) [.v (encM ms), .v (.int (s : Int)), .q [(.int (s : Int), .tuple [])], .o [.int (s : Int)], .no, .no, .no, .no] = .ok .next [.v (encM ms), .v (.int (s : Int)), .q (encF (G ms s (t' + 1))), t3, t4, t5, t6, t7] := by
      rw [evS]
      exact j5
    simp [-List.map_map, Core.pyEq_int, Core.pyLt_int, Core.evSs, Core.evS.eq_1, Core.evS.eq_2, Core.evS.eq_3, Core.evS.eq_4, Core.evS.eq_5, Core.evS.eq_6, Core.evS.eq_7, Core.evS.eq_10, Core.evS.eq_11, Core.evS.eq_12, Core.evS.eq_13, Core.evS.eq_14, Core.evS.eq_15, Core.evE.eq_1, Core.evE.eq_2, Core.evE.eq_3, Core.evE.eq_4, Core.evE.eq_5, Core.evE.eq_6, Core.evE.eq_7, Core.evE.eq_8, Core.evE.eq_9, Core.evE.eq_10, Core.evE.eq_11, Core.evE.eq_12, Core.evE.eq_13, Core.evE.eq_14, Core.evE.eq_15, Core.evE.eq_16, Core.evEs, Core.evRs, Core.evC, Core.evI, Core.evT, Core.evV, Core.evHolds, Core.setAll, Core.Out.bind, Core.Out.ofO, Core.hold, Core.frz, Core.peek, Core.mk, Core.isLst, Core.isB, Core.do1, Core.do2, Core.doSl, Core.partD, Core.dupFree, Core.bors, Core.isOwn, Core.passArgs, Core.backArgs, Core.ctx_callf, Core.ctx_io, Core.ctx_turns, Core.finish, Core.handBack, Core.outPs, Core.entry, Core.bindT, Core.bindTs, Core.wipe, Core.back, Core.walkItems, Core.bound, Core.boolsOf, cf7, b7, pairsOf, keyOk, putD, hI]
/-! ### rests_from, least_order -/
/-- who is reached -/
inductive Rch (ms : Mv) (s : Nat) : Nat → Prop
  | zero : Rch ms s s
  | go {h : Nat} {p : Nat × Nat} (r : Rch ms s h) (hp : p ∈ row ms h) : Rch ms s p.2
theorem L_rch {ms : Mv} {s : Nat} : ∀ (t : Nat), ∀ q ∈ L ms s t, Rch ms s q.2
  | 0, q, h => by
    have : q = ([], s) := by simpa [L] using h
    rw [this]; exact .zero
  | t + 1, q, h => by
    obtain ⟨z, h1, h2⟩ := List.mem_flatMap.mp h
    obtain ⟨p, h3, rfl⟩ := List.mem_map.mp h2
    exact .go (L_rch t z h1) h3
theorem end_has {ms : Mv} {s t : Nat} (h : N ms s t = []) (ht : 1 ≤ t) {x : Nat} (r : Rch ms s x) : has (G ms s t) x = true := by
  induction r with
  | zero => exact has_G.mpr ⟨0, [], by omega, by simp [L]⟩
  | go r hp ih =>
    have := closed ms s t _ ih _ hp
    rw [G_new, h] at this
    simpa using this
theorem has_iff {ms : Mv} {s t : Nat} (h : N ms s t = []) (ht : 1 ≤ t) (x : Nat) : has (G ms s (t + 1)) x = true ↔ Rch ms s x := by
  refine ⟨fun hh => ?_, fun r => ?_⟩
  · obtain ⟨u, w, _, h2⟩ := has_G.mp hh
    exact L_rch u _ h2
  · rw [G_new, h]
    simpa using end_has h ht r
noncomputable def rchB (ms : Mv) (s x : Nat) : Bool := @decide (Rch ms s x) (Classical.propDecidable _)
theorem rchB_iff {ms : Mv} {s x : Nat} : rchB ms s x = true ↔ Rch ms s x := by
  unfold rchB
  exact @decide_eq_true_iff _ (Classical.propDecidable _)
theorem MovesOk.In {ms : Mv} (h : MovesOk ms) : In ms := fun x p hp => by
  unfold row at hp
  cases e : ms[x]? with
  | none => rw [e] at hp; cases hp
  | some r =>
    rw [e] at hp
    exact ((h.2.2.1 r (List.mem_of_getElem? e)).2.1 p hp).2
end C65
end Core
end

section
set_option linter.all false
set_option autoImplicit false
set_option maxRecDepth 100000
namespace Core
open PySem PySem.W
namespace C65
open B
abbrev cupS (c : Int × Int) : Sl := .o [.int c.1, .int c.2]
theorem f16 (k : Nat) (ns : List Int) (h : ns.length ≤ 1000) : ∃ a b, callK P (k + 1) 16 [.v (.list (ns.map PyData.int))] = .ok (.list [.int a, .int b]) true [.v (.list (ns.map PyData.int))] := by
  rw [callK_eq (cf := cf16) rfl rfl]
  obtain ⟨v, hv⟩ : ∃ v, atI (ns.map PyData.int ++ [.int 0]) 0 = some (.int v) := by
    cases ns with
    | nil => exact ⟨0, rfl⟩
    | cons x ns => exact ⟨x, by
      have h2 : (0 : Int) < (ns.length : Int) + 1 + 1 := by omega
      simp [atI, ixN, h2]⟩
  have hl : (ns.map PyData.int).length + 1 ≤ lineMax := by rw [List.length_map]; unfold lineMax; omega
  have hl' : ns.length + 1 ≤ lineMax := by unfold lineMax; omega
  by_cases hc : (10 : Int) ^ 18 ≤ (if v < 0 then -v else v)
  · refine ⟨(if v < 0 then -v else v) / 79, ((if v < 0 then -v else v) * 293 + 2699) % 2077503137 + 179, ?_⟩
    have hc' : (1000000000000000000 : Int) ≤ (if v < 0 then -v else v) := hc
    simp [-List.map_map, Core.pyEq_int, Core.pyLt_int, Core.evSs, Core.evS.eq_1, Core.evS.eq_2, Core.evS.eq_3, Core.evS.eq_4, Core.evS.eq_5, Core.evS.eq_6, Core.evS.eq_7, Core.evS.eq_10, Core.evS.eq_11, Core.evS.eq_12, Core.evS.eq_13, Core.evS.eq_14, Core.evS.eq_15, Core.evE.eq_1, Core.evE.eq_2, Core.evE.eq_3, Core.evE.eq_4, Core.evE.eq_5, Core.evE.eq_6, Core.evE.eq_7, Core.evE.eq_8, Core.evE.eq_9, Core.evE.eq_10, Core.evE.eq_11, Core.evE.eq_12, Core.evE.eq_13, Core.evE.eq_14, Core.evE.eq_15, Core.evE.eq_16, Core.evEs, Core.evRs, Core.evC, Core.evI, Core.evT, Core.evV, Core.evHolds, Core.setAll, Core.Out.bind, Core.Out.ofO, Core.hold, Core.frz, Core.peek, Core.mk, Core.isLst, Core.isB, Core.do1, Core.do2, Core.doSl, Core.partD, Core.dupFree, Core.bors, Core.isOwn, Core.passArgs, Core.backArgs, Core.ctx_callf, Core.ctx_io, Core.ctx_turns, Core.finish, Core.handBack, Core.outPs, Core.entry, Core.bindT, Core.bindTs, Core.wipe, Core.back, Core.walkItems, Core.bound, Core.boolsOf, cf16, b16, hl, hl', hv, small64, hc']
  · refine ⟨0, ((if v < 0 then -v else v) * 293 + 2699) % 2077503137 + 179, ?_⟩
    have hc' : ¬ (1000000000000000000 : Int) ≤ (if v < 0 then -v else v) := hc
    simp [-List.map_map, Core.pyEq_int, Core.pyLt_int, Core.evSs, Core.evS.eq_1, Core.evS.eq_2, Core.evS.eq_3, Core.evS.eq_4, Core.evS.eq_5, Core.evS.eq_6, Core.evS.eq_7, Core.evS.eq_10, Core.evS.eq_11, Core.evS.eq_12, Core.evS.eq_13, Core.evS.eq_14, Core.evS.eq_15, Core.evE.eq_1, Core.evE.eq_2, Core.evE.eq_3, Core.evE.eq_4, Core.evE.eq_5, Core.evE.eq_6, Core.evE.eq_7, Core.evE.eq_8, Core.evE.eq_9, Core.evE.eq_10, Core.evE.eq_11, Core.evE.eq_12, Core.evE.eq_13, Core.evE.eq_14, Core.evE.eq_15, Core.evE.eq_16, Core.evEs, Core.evRs, Core.evC, Core.evI, Core.evT, Core.evV, Core.evHolds, Core.setAll, Core.Out.bind, Core.Out.ofO, Core.hold, Core.frz, Core.peek, Core.mk, Core.isLst, Core.isB, Core.do1, Core.do2, Core.doSl, Core.partD, Core.dupFree, Core.bors, Core.isOwn, Core.passArgs, Core.backArgs, Core.ctx_callf, Core.ctx_io, Core.ctx_turns, Core.finish, Core.handBack, Core.outPs, Core.entry, Core.bindT, Core.bindTs, Core.wipe, Core.back, Core.walkItems, Core.bound, Core.boolsOf, cf16, b16, hl, hl', hv, small64, hc']
theorem f17 (k : Nat) (a b m : Int) (h0 : 0 < m) (h1 : m < 1073741824) : ∃ v a' b', callK P (k + 1) 17 [.o [.int a, .int b], .v (.int m)] = .ok (.int v) false [.o [.int a', .int b'], .v (.int m)] ∧ 0 ≤ v ∧ v < m := by
  rw [callK_eq (cf := cf17) rfl rfl]
  by_cases hc : 0 < a
  · refine ⟨a % m, a / m, b, ?_, Int.emod_nonneg _ (by omega), Int.emod_lt_of_pos _ h0⟩
    simp [-List.map_map, Core.pyEq_int, Core.pyLt_int, Core.evSs, Core.evS.eq_1, Core.evS.eq_2, Core.evS.eq_3, Core.evS.eq_4, Core.evS.eq_5, Core.evS.eq_6, Core.evS.eq_7, Core.evS.eq_10, Core.evS.eq_11, Core.evS.eq_12, Core.evS.eq_13, Core.evS.eq_14, Core.evS.eq_15, Core.evE.eq_1, Core.evE.eq_2, Core.evE.eq_3, Core.evE.eq_4, Core.evE.eq_5, Core.evE.eq_6, Core.evE.eq_7, Core.evE.eq_8, Core.evE.eq_9, Core.evE.eq_10, Core.evE.eq_11, Core.evE.eq_12, Core.evE.eq_13, Core.evE.eq_14, Core.evE.eq_15, Core.evE.eq_16, Core.evEs, Core.evRs, Core.evC, Core.evI, Core.evT, Core.evV, Core.evHolds, Core.setAll, Core.Out.bind, Core.Out.ofO, Core.hold, Core.frz, Core.peek, Core.mk, Core.isLst, Core.isB, Core.do1, Core.do2, Core.doSl, Core.partD, Core.dupFree, Core.bors, Core.isOwn, Core.passArgs, Core.backArgs, Core.ctx_callf, Core.ctx_io, Core.ctx_turns, Core.finish, Core.handBack, Core.outPs, Core.entry, Core.bindT, Core.bindTs, Core.wipe, Core.back, Core.walkItems, Core.bound, Core.boolsOf, cf17, b17, hc, h0, h1, atI, ixN]
  · have q1 : 0 ≤ (b * 31079 + 8017) % 2147483543 := Int.emod_nonneg _ (by omega)
    have q2 : (b * 31079 + 8017) % 2147483543 < 2147483543 := Int.emod_lt_of_pos _ (by omega)
    generalize hz : (b * 31079 + 8017) % 2147483543 = z at q1 q2
    have q3 : small64 z = true := by
      unfold small64
      rw [Bool.and_eq_true, decide_eq_true_iff, decide_eq_true_iff]
      omega
    have s1 : small64 31079 = true := rfl
    refine ⟨(z * (z + 241) % 2147483587) / 829 % m, a, z, ?_, Int.emod_nonneg _ (by omega), Int.emod_lt_of_pos _ h0⟩
    simp [-List.map_map, Core.pyEq_int, Core.pyLt_int, Core.evSs, Core.evS.eq_1, Core.evS.eq_2, Core.evS.eq_3, Core.evS.eq_4, Core.evS.eq_5, Core.evS.eq_6, Core.evS.eq_7, Core.evS.eq_10, Core.evS.eq_11, Core.evS.eq_12, Core.evS.eq_13, Core.evS.eq_14, Core.evS.eq_15, Core.evE.eq_1, Core.evE.eq_2, Core.evE.eq_3, Core.evE.eq_4, Core.evE.eq_5, Core.evE.eq_6, Core.evE.eq_7, Core.evE.eq_8, Core.evE.eq_9, Core.evE.eq_10, Core.evE.eq_11, Core.evE.eq_12, Core.evE.eq_13, Core.evE.eq_14, Core.evE.eq_15, Core.evE.eq_16, Core.evEs, Core.evRs, Core.evC, Core.evI, Core.evT, Core.evV, Core.evHolds, Core.setAll, Core.Out.bind, Core.Out.ofO, Core.hold, Core.frz, Core.peek, Core.mk, Core.isLst, Core.isB, Core.do1, Core.do2, Core.doSl, Core.partD, Core.dupFree, Core.bors, Core.isOwn, Core.passArgs, Core.backArgs, Core.ctx_callf, Core.ctx_io, Core.ctx_turns, Core.finish, Core.handBack, Core.outPs, Core.entry, Core.bindT, Core.bindTs, Core.wipe, Core.back, Core.walkItems, Core.bound, Core.boolsOf, cf17, b17, hc, h0, h1, atI, ixN, s1, hz, q3]
theorem f18 (k : Nat) (a b : Int) (xs : List D) (h0 : xs ≠ []) (h1 : xs.length < 1000) : ∃ (j : Nat) (hj : j < xs.length) (a' b' : Int), callK P (k + 2) 18 [.o [.int a, .int b], .v (.list xs)] = .ok xs[j] false [.o [.int a', .int b'], .v (.list xs)] := by
  rw [callK_eq (cf := cf18) rfl rfl]
  have hp : 0 < xs.length := List.length_pos_iff.mpr h0
  obtain ⟨v, a', b', e, v0, v1⟩ := f17 k a b xs.length (by omega) (by omega)
  refine ⟨v.toNat, by omega, a', b', ?_⟩
  have hx : atI xs v = some (xs[v.toNat]'(by omega)) := by
    unfold atI ixN
    rw [if_pos v0, if_pos v1]
    exact List.getElem?_eq_getElem _
  simp [-List.map_map, Core.pyEq_int, Core.pyLt_int, Core.evSs, Core.evS.eq_1, Core.evS.eq_2, Core.evS.eq_3, Core.evS.eq_4, Core.evS.eq_5, Core.evS.eq_6, Core.evS.eq_7, Core.evS.eq_10, Core.evS.eq_11, Core.evS.eq_12, Core.evS.eq_13, Core.evS.eq_14, Core.evS.eq_15, Core.evE.eq_1, Core.evE.eq_2, Core.evE.eq_3, Core.evE.eq_4, Core.evE.eq_5, Core.evE.eq_6, Core.evE.eq_7, Core.evE.eq_8, Core.evE.eq_9, Core.evE.eq_10, Core.evE.eq_11, Core.evE.eq_12, Core.evE.eq_13, Core.evE.eq_14, Core.evE.eq_15, Core.evE.eq_16, Core.evEs, Core.evRs, Core.evC, Core.evI, Core.evT, Core.evV, Core.evHolds, Core.setAll, Core.Out.bind, Core.Out.ofO, Core.hold, Core.frz, Core.peek, Core.mk, Core.isLst, Core.isB, Core.do1, Core.do2, Core.doSl, Core.partD, Core.dupFree, Core.bors, Core.isOwn, Core.passArgs, Core.backArgs, Core.ctx_callf, Core.ctx_io, Core.ctx_turns, Core.finish, Core.handBack, Core.outPs, Core.entry, Core.bindT, Core.bindTs, Core.wipe, Core.back, Core.walkItems, Core.bound, Core.boolsOf, cf18, b18, e, hx]
/-! ### sorted sets -/
theorem insS_asc : ∀ (x : Int) (l : List Int), asc l = true → asc (insS (fun a b => decide (a < b)) x l) = true ∧ (∀ y, (insS (fun a b => decide (a < b)) x l).head? = some y → y = x ∨ l.head? = some y) ∧ (insS (fun a b => decide (a < b)) x l).length ≤ l.length + 1 ∧ ∀ y ∈ insS (fun a b => decide (a < b)) x l, y = x ∨ y ∈ l
  | x, [], _ => ⟨rfl, (fun y h => by cases h; exact .inl rfl), Nat.le_refl _, fun y h => by simpa [insS] using h⟩
  | x, z :: l, h => by
    unfold insS
    by_cases h1 : x < z
    · rw [if_pos (decide_eq_true h1)]
      refine ⟨?_, fun y h => ?_, Nat.le_refl _, fun y hy => ?_⟩
      · rw [asc, decide_eq_true h1, h]; rfl
      · cases h; exact .inl rfl
      · simpa using hy
    · rw [if_neg (by simpa using h1)]
      by_cases h2 : z < x
      · rw [if_pos (decide_eq_true h2)]
        have hl : asc l = true := by
          cases l with
          | nil => rfl
          | cons w l =>
            rw [asc, Bool.and_eq_true] at h
            exact h.2
        obtain ⟨k1, k2, k3, k4⟩ := insS_asc x l hl
        refine ⟨?_, fun y h => ?_, ?_, fun y hy => ?_⟩
        · cases e : insS (fun a b => decide (a < b)) x l with
          | nil => rfl
          | cons w r =>
            rw [asc, ← e, k1, Bool.and_true]
            rcases k2 w (by rw [e]; rfl) with rfl | h3
            · exact decide_eq_true h2
            · cases l with
              | nil => cases h3
              | cons w' l =>
                cases h3
                rw [asc, Bool.and_eq_true] at h
                exact h.1
        · cases h; exact .inr rfl
        · rw [List.length_cons, List.length_cons]; omega
        · rcases List.mem_cons.mp hy with rfl | hy
          · exact .inr List.mem_cons_self
          · rcases k4 y hy with rfl | hy
            · exact .inl rfl
            · exact .inr (List.mem_cons_of_mem _ hy)
      · rw [if_neg (by simpa using h2)]
        refine ⟨h, fun y hy => .inr hy, by rw [List.length_cons]; omega, fun y hy => .inr hy⟩
def setI (l : List Int) : List Int := ssetL (fun a b => decide (a < b)) l
theorem setI_ok : ∀ (l : List Int), asc (setI l) = true ∧ (setI l).length ≤ l.length ∧ ∀ y ∈ setI l, y ∈ l
  | [] => ⟨rfl, Nat.le_refl _, fun y h => h⟩
  | x :: l => by
    obtain ⟨h1, h2, h3⟩ := setI_ok l
    obtain ⟨k1, k2, k3, k4⟩ := insS_asc x (setI l) h1
    refine ⟨k1, ?_, fun y hy => ?_⟩
    · rw [List.length_cons]
      have : (setI (x :: l)).length ≤ (setI l).length + 1 := k3
      omega
    · rcases k4 y hy with rfl | hy
      · exact List.mem_cons_self
      · exact List.mem_cons_of_mem _ (h3 y hy)
theorem intsOf_map : ∀ (l : List Int), intsOf (l.map PyData.int) = some l
  | [] => rfl
  | x :: l => by
    show (intsOf (l.map PyData.int)).map (x :: ·) = _
    rw [intsOf_map l]; rfl
theorem sset_ints (l : List Int) (h : l.length < 64) : sset (l.map PyData.int) = some (.list ((setI l).map PyData.int)) := by
  unfold sset
  rw [intsOf_map]
  dsimp only
  rw [if_pos h]; rfl
/-! ### _law_moves: the lines -/
/-- a list of moves, not yet numbered -/
def encL (g : List (Nat × Nat)) : D := .list (g.map encP)
def GoOk (m : Nat) (g : List (Nat × Nat)) : Prop := g.length ≤ 3 ∧ (∀ p ∈ g, p.1 ≤ 15 ∧ p.2 < m) ∧ asc (g.map fun p => (p.1 : Int)) = true
theorem g19_0 (k : Nat) (a b : Int) (s1 s2 s3 s4 s6 s7 s8 s9 s10 : Sl) : ∃ (l : List Int) (a' b' : Int), evE (P.ctx (callK P (k + 2))) q19_0 [.o [.int a, .int b], s1, s2, s3, s4, .no, s6, s7, s8, s9, s10] = .ok (.n (.list (l.map PyData.int))) [.o [.int a', .int b'], s1, s2, s3, s4, .no, s6, s7, s8, s9, s10] ∧ l.length ≤ 3 ∧ ∀ x ∈ l, 0 ≤ x ∧ x < 16 := by
  obtain ⟨j, hj, a1, b1, e1⟩ := f18 k a b [.int 0, .int 1, .int 1, .int 2, .int 3] (by simp) (by simp)
  obtain ⟨n, hn, en⟩ : ∃ n : Nat, n ≤ 3 ∧ ([.int 0, .int 1, .int 1, .int 2, .int 3] : List D)[j] = .int (n : Int) := by
    match j, hj with
    | 0, _ => exact ⟨0, by omega, rfl⟩
    | 1, _ => exact ⟨1, by omega, rfl⟩
    | 2, _ => exact ⟨1, by omega, rfl⟩
    | 3, _ => exact ⟨2, by omega, rfl⟩
    | 4, _ => exact ⟨3, by omega, rfl⟩
    | j + 5, h => simp at h; omega
  rw [en] at e1
  have hI : evI (P.ctx (callK P (k + 2))) (.rng (.call 18 [(.var 0), (.lst [(.cst (.int 0)), (.cst (.int 1)), (.cst (.int 1)), (.cst (.int 2)), (.cst (.int 3))])])) [.o [.int a, .int b], s1, s2, s3, s4, .no, s6, s7, s8, s9, s10] = .ok (rngD 0 n) [.o [.int a1, .int b1], s1, s2, s3, s4, .no, s6, s7, s8, s9, s10] := by
    have h1 : (-16000000 : Int) ≤ n := by omega
    have h2 : (n : Int) ≤ 16000000 := by omega
    simp [-List.map_map, Core.pyEq_int, Core.pyLt_int, Core.evSs, Core.evS.eq_1, Core.evS.eq_2, Core.evS.eq_3, Core.evS.eq_4, Core.evS.eq_5, Core.evS.eq_6, Core.evS.eq_7, Core.evS.eq_10, Core.evS.eq_11, Core.evS.eq_12, Core.evS.eq_13, Core.evS.eq_14, Core.evS.eq_15, Core.evE.eq_1, Core.evE.eq_2, Core.evE.eq_3, Core.evE.eq_4, Core.evE.eq_5, Core.evE.eq_6, Core.evE.eq_7, Core.evE.eq_8, Core.evE.eq_9, Core.evE.eq_10, Core.evE.eq_11, Core.evE.eq_12, Core.evE.eq_13, Core.evE.eq_14, Core.evE.eq_15, Core.evE.eq_16, Core.evEs, Core.evRs, Core.evC, Core.evI, Core.evT, Core.evV, Core.evHolds, Core.setAll, Core.Out.bind, Core.Out.ofO, Core.hold, Core.frz, Core.peek, Core.mk, Core.isLst, Core.isB, Core.do1, Core.do2, Core.doSl, Core.partD, Core.dupFree, Core.bors, Core.isOwn, Core.passArgs, Core.backArgs, Core.ctx_callf, Core.ctx_io, Core.ctx_turns, Core.finish, Core.handBack, Core.outPs, Core.entry, Core.bindT, Core.bindTs, Core.wipe, Core.back, Core.walkItems, Core.bound, Core.boolsOf, e1, h1, h2]
  obtain ⟨ds, e', h1, ⟨a2, b2, rfl⟩, h3⟩ := lc_rel (C := P.ctx (callK P (k + 2))) (elt := .call 17 [(.var 0), (.cst (.int 16))]) (tg := .nm 5) (own := [5]) (fun e => ∃ a' b' : Int, e = [.o [.int a', .int b'], s1, s2, s3, s4, .no, s6, s7, s8, s9, s10]) (fun _ d => ∃ x : Int, d = .int x ∧ 0 ≤ x ∧ x < 16) hI ⟨a1, b1, rfl⟩ (fun x hx e ⟨a', b', he⟩ => by
    obtain ⟨v, a2, b2, e2, v0, v1⟩ := f17 (k + 1) a' b' 16 (by omega) (by omega)
    refine ⟨[.o [.int a', .int b'], s1, s2, s3, s4, .v x, s6, s7, s8, s9, s10], [.o [.int a2, .int b2], s1, s2, s3, s4, .v x, s6, s7, s8, s9, s10], .int v, by rw [he]; rfl, ?_, ⟨a2, b2, rfl⟩, v, rfl, v0, v1⟩
    simp [-List.map_map, Core.pyEq_int, Core.pyLt_int, Core.evSs, Core.evS.eq_1, Core.evS.eq_2, Core.evS.eq_3, Core.evS.eq_4, Core.evS.eq_5, Core.evS.eq_6, Core.evS.eq_7, Core.evS.eq_10, Core.evS.eq_11, Core.evS.eq_12, Core.evS.eq_13, Core.evS.eq_14, Core.evS.eq_15, Core.evE.eq_1, Core.evE.eq_2, Core.evE.eq_3, Core.evE.eq_4, Core.evE.eq_5, Core.evE.eq_6, Core.evE.eq_7, Core.evE.eq_8, Core.evE.eq_9, Core.evE.eq_10, Core.evE.eq_11, Core.evE.eq_12, Core.evE.eq_13, Core.evE.eq_14, Core.evE.eq_15, Core.evE.eq_16, Core.evEs, Core.evRs, Core.evC, Core.evI, Core.evT, Core.evV, Core.evHolds, Core.setAll, Core.Out.bind, Core.Out.ofO, Core.hold, Core.frz, Core.peek, Core.mk, Core.isLst, Core.isB, Core.do1, Core.do2, Core.doSl, Core.partD, Core.dupFree, Core.bors, Core.isOwn, Core.passArgs, Core.backArgs, Core.ctx_callf, Core.ctx_io, Core.ctx_turns, Core.finish, Core.handBack, Core.outPs, Core.entry, Core.bindT, Core.bindTs, Core.wipe, Core.back, Core.walkItems, Core.bound, Core.boolsOf, e2])
  have hl : ds.length = n := by
    rw [← h3.len]
    simp [rngD]
  obtain ⟨l, rfl, hm⟩ : ∃ l : List Int, ds = l.map PyData.int ∧ ∀ x ∈ l, 0 ≤ x ∧ x < 16 := by
    clear h1 hl
    generalize rngD 0 n = xs at h3
    induction h3 with
    | nil => exact ⟨[], rfl, fun x h => by cases h⟩
    | cons h t ih =>
      obtain ⟨x, rfl, hx⟩ := h
      obtain ⟨l, rfl, hl⟩ := ih
      exact ⟨x :: l, rfl, fun y hy => by
        rcases List.mem_cons.mp hy with rfl | hy
        · exact hx
        · exact hl y hy⟩
  refine ⟨l, a2, b2, h1, by rw [List.length_map] at hl; omega, hm⟩
theorem g19_1 (k : Nat) (a b : Int) (m low : Nat) (hm : low < m) (hm5 : m ≤ 7) (l : List Int) (hl : ∀ x ∈ l, 0 ≤ x ∧ x < 16) (s2 s3 s5 s7 s8 s9 s10 : Sl) : ∃ (g : List (Nat × Nat)) (a' b' : Int),
    evE (P.ctx (callK P (k + 1))) q19_1 [.o [.int a, .int b], .v (.int (m : Int)), s2, s3, .o (l.map PyData.int), s5, .v (.int (low : Int)), s7, s8, s9, s10] = .ok (.n (encL g)) [.o [.int a', .int b'], .v (.int (m : Int)), s2, s3, .v (.list (l.map PyData.int)), s5, .v (.int (low : Int)), s7, s8, s9, s10] ∧ (g.map fun p => (p.1 : Int)) = l ∧ ∀ p ∈ g, p.2 < m := by
  have hI : evI (P.ctx (callK P (k + 1))) (.seq (.var 4)) [.o [.int a, .int b], .v (.int (m : Int)), s2, s3, .o (l.map PyData.int), s5, .v (.int (low : Int)), s7, s8, s9, s10] = .ok (l.map PyData.int) [.o [.int a, .int b], .v (.int (m : Int)), s2, s3, .v (.list (l.map PyData.int)), s5, .v (.int (low : Int)), s7, s8, s9, s10] := by
    simp [-List.map_map, Core.pyEq_int, Core.pyLt_int, Core.evSs, Core.evS.eq_1, Core.evS.eq_2, Core.evS.eq_3, Core.evS.eq_4, Core.evS.eq_5, Core.evS.eq_6, Core.evS.eq_7, Core.evS.eq_10, Core.evS.eq_11, Core.evS.eq_12, Core.evS.eq_13, Core.evS.eq_14, Core.evS.eq_15, Core.evE.eq_1, Core.evE.eq_2, Core.evE.eq_3, Core.evE.eq_4, Core.evE.eq_5, Core.evE.eq_6, Core.evE.eq_7, Core.evE.eq_8, Core.evE.eq_9, Core.evE.eq_10, Core.evE.eq_11, Core.evE.eq_12, Core.evE.eq_13, Core.evE.eq_14, Core.evE.eq_15, Core.evE.eq_16, Core.evEs, Core.evRs, Core.evC, Core.evI, Core.evT, Core.evV, Core.evHolds, Core.setAll, Core.Out.bind, Core.Out.ofO, Core.hold, Core.frz, Core.peek, Core.mk, Core.isLst, Core.isB, Core.do1, Core.do2, Core.doSl, Core.partD, Core.dupFree, Core.bors, Core.isOwn, Core.passArgs, Core.backArgs, Core.ctx_callf, Core.ctx_io, Core.ctx_turns, Core.finish, Core.handBack, Core.outPs, Core.entry, Core.bindT, Core.bindTs, Core.wipe, Core.back, Core.walkItems, Core.bound, Core.boolsOf]
  obtain ⟨ds, e', h1, ⟨a2, b2, rfl⟩, h3⟩ := lc_rel (C := P.ctx (callK P (k + 1))) (elt := .tup [(.var 7), (.o2 .add (.var 6) (.call 17 [(.var 0), (.o2 .sub (.var 1) (.var 6))]))]) (tg := .nm 7) (own := [7]) (fun e => ∃ a' b' : Int, e = [.o [.int a', .int b'], .v (.int (m : Int)), s2, s3, .v (.list (l.map PyData.int)), s5, .v (.int (low : Int)), .no, s8, s9, s10])
    (fun x d => ∃ (i : Int) (v : Nat), x = .int i ∧ v < m ∧ d = .tuple [.int i, .int (v : Int)]) hI ⟨a, b, rfl⟩ (fun x hx e ⟨a', b', he⟩ => by
    obtain ⟨i, _, rfl⟩ := List.mem_map.mp hx
    obtain ⟨v, a2, b2, e2, v0, v1⟩ := f17 k a' b' ((m : Int) - (low : Int)) (by omega) (by omega)
    refine ⟨[.o [.int a', .int b'], .v (.int (m : Int)), s2, s3, .v (.list (l.map PyData.int)), s5, .v (.int (low : Int)), .v (.int i), s8, s9, s10], [.o [.int a2, .int b2], .v (.int (m : Int)), s2, s3, .v (.list (l.map PyData.int)), s5, .v (.int (low : Int)), .v (.int i), s8, s9, s10], .tuple [.int i, .int ((low : Int) + v)], by rw [he]; rfl, ?_, ⟨a2, b2, rfl⟩, i, low + v.toNat, rfl, by omega, by
      have : ((low + v.toNat : Nat) : Int) = (low : Int) + v := by omega
      rw [this]⟩
    simp [-List.map_map, Core.pyEq_int, Core.pyLt_int, Core.evSs, Core.evS.eq_1, Core.evS.eq_2, Core.evS.eq_3, Core.evS.eq_4, Core.evS.eq_5, Core.evS.eq_6, Core.evS.eq_7, Core.evS.eq_10, Core.evS.eq_11, Core.evS.eq_12, Core.evS.eq_13, Core.evS.eq_14, Core.evS.eq_15, Core.evE.eq_1, Core.evE.eq_2, Core.evE.eq_3, Core.evE.eq_4, Core.evE.eq_5, Core.evE.eq_6, Core.evE.eq_7, Core.evE.eq_8, Core.evE.eq_9, Core.evE.eq_10, Core.evE.eq_11, Core.evE.eq_12, Core.evE.eq_13, Core.evE.eq_14, Core.evE.eq_15, Core.evE.eq_16, Core.evEs, Core.evRs, Core.evC, Core.evI, Core.evT, Core.evV, Core.evHolds, Core.setAll, Core.Out.bind, Core.Out.ofO, Core.hold, Core.frz, Core.peek, Core.mk, Core.isLst, Core.isB, Core.do1, Core.do2, Core.doSl, Core.partD, Core.dupFree, Core.bors, Core.isOwn, Core.passArgs, Core.backArgs, Core.ctx_callf, Core.ctx_io, Core.ctx_turns, Core.finish, Core.handBack, Core.outPs, Core.entry, Core.bindT, Core.bindTs, Core.wipe, Core.back, Core.walkItems, Core.bound, Core.boolsOf, e2])
  obtain ⟨g, rfl, hg1, hg2⟩ : ∃ g : List (Nat × Nat), ds = g.map encP ∧ (g.map fun p => (p.1 : Int)) = l ∧ ∀ p ∈ g, p.2 < m := by
    clear h1 hI
    generalize hxs : l.map PyData.int = xs at h3
    induction h3 generalizing l with
    | nil =>
      cases l with
      | nil => exact ⟨[], rfl, rfl, fun x h => by cases h⟩
      | cons x l => cases hxs
    | cons h t ih =>
      cases l with
      | nil => cases hxs
      | cons x l =>
        rw [List.map_cons, List.cons.injEq] at hxs
        obtain ⟨i, v, e1, hv, rfl⟩ := h
        rw [e1] at hxs
        have ei : x = i := PyData.int.inj hxs.1
        subst ei
        obtain ⟨g, rfl, h2, h3⟩ := ih l (fun y hy => hl y (List.mem_cons_of_mem _ hy)) hxs.2
        have hx := hl x List.mem_cons_self
        have ex : ((x.toNat : Nat) : Int) = x := by omega
        refine ⟨(x.toNat, v) :: g, ?_, ?_, fun p hp => ?_⟩
        · rw [List.map_cons]
          simp only [encP, ex]
        · rw [List.map_cons, h2, ex]
        · rcases List.mem_cons.mp hp with rfl | hp
          · exact hv
          · exact h3 p hp
  exact ⟨g, a2, b2, h1, hg1, hg2⟩
theorem asc_setI (l : List Int) : asc (setI l) = true := (setI_ok l).1
theorem g19_2 (k : Nat) (m : Nat) (hm : 1 ≤ m) (hm5 : m ≤ 7) (a b : Int) (i : Nat) (hi : i < m) (gs : List (List (Nat × Nat))) (s4 s6 s7 s8 s9 s10 : Sl) (hgs : gs.length ≤ 7) : ∃ (g : List (Nat × Nat)) (a' b' : Int) (t4 t6 : Sl), GoOk m g ∧
    evSs (P.ctx (callK P (k + 2))) l19_2 [.o [.int a, .int b], .v (.int (m : Int)), .o (gs.map encL), .v (.int (i : Int)), s4, .no, s6, s7, s8, s9, s10] = .ok .next [.o [.int a', .int b'], .v (.int (m : Int)), .o ((gs ++ [g]).map encL), .v (.int (i : Int)), t4, .no, t6, s7, s8, s9, s10] := by
  obtain ⟨l, a1, b1, e1, hl, hr⟩ := g19_0 k a b (.v (.int (m : Int))) (.o (gs.map encL)) (.v (.int (i : Int))) s4 s6 s7 s8 s9 s10
  have hs := sset_ints l (by omega)
  obtain ⟨k1, k2, k3⟩ := setI_ok l
  obtain ⟨v, a2, b2, e2, v0, v1⟩ := f17 (k + 1) a1 b1 3 (by omega) (by omega)
  have low : ∃ low : Nat, low < m ∧ (if (decide (0 < v) && decide ((i : Int) + 1 < (m : Int))) = true then (i : Int) + 1 else 0) = (low : Int) := by
    by_cases h : (decide (0 < v) && decide ((i : Int) + 1 < (m : Int))) = true
    · rw [if_pos h]
      rw [Bool.and_eq_true, decide_eq_true_iff, decide_eq_true_iff] at h
      exact ⟨i + 1, by omega, by omega⟩
    · rw [if_neg h]
      exact ⟨0, by omega, rfl⟩
  obtain ⟨lo, hlo, elo⟩ := low
  obtain ⟨g, a3, b3, e3, hg1, hg2⟩ := g19_1 (k + 1) a2 b2 m lo hlo hm5 (setI l) (fun x hx => hr x (k3 x hx)) (.o (gs.map encL)) (.v (.int (i : Int))) .no s7 s8 s9 s10
  have hlen : (gs.map encL).length < lineMax := by rw [List.length_map]; unfold lineMax; omega
  refine ⟨g, a3, b3, .v (.list ((setI l).map PyData.int)), .v (.int (lo : Int)), ⟨?_, fun p hp => ⟨?_, hg2 p hp⟩, by rw [hg1]; exact k1⟩, ?_⟩
  · have := congrArg List.length hg1
    rw [List.length_map] at this
    omega
  · have : (p.1 : Int) ∈ setI l := by rw [← hg1]; exact List.mem_map.mpr ⟨p, hp, rfl⟩
    have := hr _ (k3 _ this)
    omega
  · have elo' : evE (P.ctx (callK P (k + 2))) (.ite (.and_ (.o2 .gt (.call 17 [(.var 0), (.cst (.int 3))]) (.cst (.int 0))) (.o2 .lt (.o2 .add (.var 3) (.cst (.int 1))) (.var 1))) (.o2 .add (.var 3) (.cst (.int 1))) (.cst (.int 0))) [.o [.int a1, .int b1], .v (.int (m : Int)), .o (gs.map encL), .v (.int (i : Int)), .o ((setI l).map PyData.int), .no, s6, s7, s8, s9, s10] = .ok (.f (.int (lo : Int))) [.o [.int a2, .int b2], .v (.int (m : Int)), .o (gs.map encL), .v (.int (i : Int)), .o ((setI l).map PyData.int), .no, s6, s7, s8, s9, s10] := by
      rw [← elo]
      by_cases h1 : 0 < v
      · by_cases h2 : (i : Int) + 1 < (m : Int)
        · simp [-List.map_map, Core.pyEq_int, Core.pyLt_int, Core.evSs, Core.evS.eq_1, Core.evS.eq_2, Core.evS.eq_3, Core.evS.eq_4, Core.evS.eq_5, Core.evS.eq_6, Core.evS.eq_7, Core.evS.eq_10, Core.evS.eq_11, Core.evS.eq_12, Core.evS.eq_13, Core.evS.eq_14, Core.evS.eq_15, Core.evE.eq_1, Core.evE.eq_2, Core.evE.eq_3, Core.evE.eq_4, Core.evE.eq_5, Core.evE.eq_6, Core.evE.eq_7, Core.evE.eq_8, Core.evE.eq_9, Core.evE.eq_10, Core.evE.eq_11, Core.evE.eq_12, Core.evE.eq_13, Core.evE.eq_14, Core.evE.eq_15, Core.evE.eq_16, Core.evEs, Core.evRs, Core.evC, Core.evI, Core.evT, Core.evV, Core.evHolds, Core.setAll, Core.Out.bind, Core.Out.ofO, Core.hold, Core.frz, Core.peek, Core.mk, Core.isLst, Core.isB, Core.do1, Core.do2, Core.doSl, Core.partD, Core.dupFree, Core.bors, Core.isOwn, Core.passArgs, Core.backArgs, Core.ctx_callf, Core.ctx_io, Core.ctx_turns, Core.finish, Core.handBack, Core.outPs, Core.entry, Core.bindT, Core.bindTs, Core.wipe, Core.back, Core.walkItems, Core.bound, Core.boolsOf, e2, h1, h2]
        · simp [-List.map_map, Core.pyEq_int, Core.pyLt_int, Core.evSs, Core.evS.eq_1, Core.evS.eq_2, Core.evS.eq_3, Core.evS.eq_4, Core.evS.eq_5, Core.evS.eq_6, Core.evS.eq_7, Core.evS.eq_10, Core.evS.eq_11, Core.evS.eq_12, Core.evS.eq_13, Core.evS.eq_14, Core.evS.eq_15, Core.evE.eq_1, Core.evE.eq_2, Core.evE.eq_3, Core.evE.eq_4, Core.evE.eq_5, Core.evE.eq_6, Core.evE.eq_7, Core.evE.eq_8, Core.evE.eq_9, Core.evE.eq_10, Core.evE.eq_11, Core.evE.eq_12, Core.evE.eq_13, Core.evE.eq_14, Core.evE.eq_15, Core.evE.eq_16, Core.evEs, Core.evRs, Core.evC, Core.evI, Core.evT, Core.evV, Core.evHolds, Core.setAll, Core.Out.bind, Core.Out.ofO, Core.hold, Core.frz, Core.peek, Core.mk, Core.isLst, Core.isB, Core.do1, Core.do2, Core.doSl, Core.partD, Core.dupFree, Core.bors, Core.isOwn, Core.passArgs, Core.backArgs, Core.ctx_callf, Core.ctx_io, Core.ctx_turns, Core.finish, Core.handBack, Core.outPs, Core.entry, Core.bindT, Core.bindTs, Core.wipe, Core.back, Core.walkItems, Core.bound, Core.boolsOf, e2, h1, h2]
      · simp [-List.map_map, Core.pyEq_int, Core.pyLt_int, Core.evSs, Core.evS.eq_1, Core.evS.eq_2, Core.evS.eq_3, Core.evS.eq_4, Core.evS.eq_5, Core.evS.eq_6, Core.evS.eq_7, Core.evS.eq_10, Core.evS.eq_11, Core.evS.eq_12, Core.evS.eq_13, Core.evS.eq_14, Core.evS.eq_15, Core.evE.eq_1, Core.evE.eq_2, Core.evE.eq_3, Core.evE.eq_4, Core.evE.eq_5, Core.evE.eq_6, Core.evE.eq_7, Core.evE.eq_8, Core.evE.eq_9, Core.evE.eq_10, Core.evE.eq_11, Core.evE.eq_12, Core.evE.eq_13, Core.evE.eq_14, Core.evE.eq_15, Core.evE.eq_16, Core.evEs, Core.evRs, Core.evC, Core.evI, Core.evT, Core.evV, Core.evHolds, Core.setAll, Core.Out.bind, Core.Out.ofO, Core.hold, Core.frz, Core.peek, Core.mk, Core.isLst, Core.isB, Core.do1, Core.do2, Core.doSl, Core.partD, Core.dupFree, Core.bors, Core.isOwn, Core.passArgs, Core.backArgs, Core.ctx_callf, Core.ctx_io, Core.ctx_turns, Core.finish, Core.handBack, Core.outPs, Core.entry, Core.bindT, Core.bindTs, Core.wipe, Core.back, Core.walkItems, Core.bound, Core.boolsOf, e2, h1]
    rw [l19_2, evSs, evS]
    have q0 : (evE (P.ctx (callK P (k + 2))) (.o1 .sset q19_0) [.o [.int a, .int b], .v (.int (m : Int)), .o (gs.map encL), .v (.int (i : Int)), s4, .no, s6, s7, s8, s9, s10]) = .ok (.n (.list ((setI l).map PyData.int))) [.o [.int a1, .int b1], .v (.int (m : Int)), .o (gs.map encL), .v (.int (i : Int)), s4, .no, s6, s7, s8, s9, s10] := by
      simp [-List.map_map, Core.pyEq_int, Core.pyLt_int, Core.evSs, Core.evS.eq_1, Core.evS.eq_2, Core.evS.eq_3, Core.evS.eq_4, Core.evS.eq_5, Core.evS.eq_6, Core.evS.eq_7, Core.evS.eq_10, Core.evS.eq_11, Core.evS.eq_12, Core.evS.eq_13, Core.evS.eq_14, Core.evS.eq_15, Core.evE.eq_1, Core.evE.eq_2, Core.evE.eq_3, Core.evE.eq_4, Core.evE.eq_5, Core.evE.eq_6, Core.evE.eq_7, Core.evE.eq_8, Core.evE.eq_9, Core.evE.eq_10, Core.evE.eq_11, Core.evE.eq_12, Core.evE.eq_13, Core.evE.eq_14, Core.evE.eq_15, Core.evE.eq_16, Core.evEs, Core.evRs, Core.evC, Core.evI, Core.evT, Core.evV, Core.evHolds, Core.setAll, Core.Out.bind, Core.Out.ofO, Core.hold, Core.frz, Core.peek, Core.mk, Core.isLst, Core.isB, Core.do1, Core.do2, Core.doSl, Core.partD, Core.dupFree, Core.bors, Core.isOwn, Core.passArgs, Core.backArgs, Core.ctx_callf, Core.ctx_io, Core.ctx_turns, Core.finish, Core.handBack, Core.outPs, Core.entry, Core.bindT, Core.bindTs, Core.wipe, Core.back, Core.walkItems, Core.bound, Core.boolsOf, e1, hs]
    have hget : (gs.map encL) ++ [encL g] = (gs ++ [g]).map encL := by rw [List.map_append]; rfl
    have e3' : evE (P.ctx (callK P (k + 2))) q19_1 [.o [.int a2, .int b2], .v (.int (m : Int)), .o (gs.map encL), .v (.int (i : Int)), .o ((setI l).map PyData.int), .no, .v (.int (lo : Int)), s7, s8, s9, s10] = .ok (.n (encL g)) _ := e3
    simp only [q0, Out.bind, hold, List.set_cons_succ, List.set_cons_zero]
    rw [evSs, evS, elo']
    simp only [Out.bind, hold, frz, List.set_cons_succ, List.set_cons_zero]
    have hlen' : gs.length < lineMax := by unfold lineMax; omega
    simp [-List.map_map, Core.pyEq_int, Core.pyLt_int, Core.evSs, Core.evS.eq_1, Core.evS.eq_2, Core.evS.eq_3, Core.evS.eq_4, Core.evS.eq_5, Core.evS.eq_6, Core.evS.eq_7, Core.evS.eq_10, Core.evS.eq_11, Core.evS.eq_12, Core.evS.eq_13, Core.evS.eq_14, Core.evS.eq_15, Core.evE.eq_1, Core.evE.eq_2, Core.evE.eq_3, Core.evE.eq_4, Core.evE.eq_5, Core.evE.eq_6, Core.evE.eq_7, Core.evE.eq_8, Core.evE.eq_9, Core.evE.eq_10, Core.evE.eq_11, Core.evE.eq_12, Core.evE.eq_13, Core.evE.eq_14, Core.evE.eq_15, Core.evE.eq_16, Core.evEs, Core.evRs, Core.evC, Core.evI, Core.evT, Core.evV, Core.evHolds, Core.setAll, Core.Out.bind, Core.Out.ofO, Core.hold, Core.frz, Core.peek, Core.mk, Core.isLst, Core.isB, Core.do1, Core.do2, Core.doSl, Core.partD, Core.dupFree, Core.bors, Core.isOwn, Core.passArgs, Core.backArgs, Core.ctx_callf, Core.ctx_io, Core.ctx_turns, Core.finish, Core.handBack, Core.outPs, Core.entry, Core.bindT, Core.bindTs, Core.wipe, Core.back, Core.walkItems, Core.bound, Core.boolsOf, e3', hlen']
/-! ### _law_moves: the numbers -/
def ordF (o : List Nat) (x : Nat) : List Nat := if x ∈ o then o else o ++ [x]
def ordG (o : List Nat) (g : List (Nat × Nat)) : List Nat := g.foldl (fun o p => ordF o p.2) o
def rowF (o : List Nat) (g : List (Nat × Nat)) : List (Nat × Nat) := g.map fun p => (p.1, o.idxOf p.2)
theorem ordF_pre (o : List Nat) (x : Nat) : ∃ r, ordF o x = o ++ r := by
  unfold ordF
  split
  · exact ⟨[], (List.append_nil _).symm⟩
  · exact ⟨[x], rfl⟩
theorem ordG_pre : ∀ (g : List (Nat × Nat)) (o : List Nat), ∃ r, ordG o g = o ++ r
  | [], o => ⟨[], (List.append_nil _).symm⟩
  | p :: g, o => by
    obtain ⟨r, h1⟩ := ordF_pre o p.2
    obtain ⟨r2, h2⟩ := ordG_pre g (ordF o p.2)
    refine ⟨r ++ r2, ?_⟩
    show ordG (ordF o p.2) g = _
    rw [h2, h1, List.append_assoc]
theorem ordG_mem : ∀ (g : List (Nat × Nat)) (o : List Nat), (∀ x ∈ o, x ∈ ordG o g) ∧ (∀ p ∈ g, p.2 ∈ ordG o g)
  | [], o => ⟨fun x h => h, fun p h => by cases h⟩
  | q :: g, o => by
    obtain ⟨h1, h2⟩ := ordG_mem g (ordF o q.2)
    have h3 : ∀ x ∈ o, x ∈ ordF o q.2 := fun x hx => by
      obtain ⟨r, e⟩ := ordF_pre o q.2
      rw [e]; exact List.mem_append_left _ hx
    have h4 : q.2 ∈ ordF o q.2 := by
      unfold ordF
      split
      · assumption
      · exact List.mem_append_right _ List.mem_cons_self
    refine ⟨fun x hx => h1 x (h3 x hx), fun p hp => ?_⟩
    rcases List.mem_cons.mp hp with rfl | hp
    · exact h1 _ h4
    · exact h2 p hp
theorem met_row : ∀ (g : List (Nat × Nat)) (o tl : List Nat), metRow o.length (g.map fun p => (p.1, (ordG o g ++ tl).idxOf p.2)) = some (ordG o g).length
  | [], o, tl => rfl
  | (l, x) :: g, o, tl => by
    have ih := met_row g (ordF o x) tl
    have e : ordG o ((l, x) :: g) = ordG (ordF o x) g := rfl
    rw [e, List.map_cons, metRow]
    obtain ⟨r, hr⟩ := ordG_pre g (ordF o x)
    by_cases hx : x ∈ o
    · have e1 : ordF o x = o := if_pos hx
      rw [e1] at ih hr ⊢
      have e2 : (ordG o g ++ tl).idxOf x = o.idxOf x := by
        rw [hr, List.append_assoc, List.idxOf_append, if_pos hx]
      have e3 : o.idxOf x < o.length := List.idxOf_lt_length_of_mem hx
      dsimp only
      rw [e2, if_neg (by omega), if_neg (by omega)]
      exact ih
    · have e1 : ordF o x = o ++ [x] := if_neg hx
      rw [e1] at ih hr ⊢
      have e2 : (ordG (o ++ [x]) g ++ tl).idxOf x = o.length := by
        rw [hr, List.append_assoc, List.append_assoc, List.idxOf_append, if_neg hx]
        simp
      dsimp only
      rw [e2, if_neg (by omega), if_pos rfl]
      rw [List.length_append, List.length_singleton] at ih
      exact ih
theorem met_app : ∀ (ms : List (List (Nat × Nat))) (r : List (Nat × Nat)) (i m : Nat), metAll i m (ms ++ [r]) = (metAll i m ms).bind fun m' => if i + ms.length ≥ m' then none else metRow m' r
  | [], r, i, m => by
    show (if i ≥ m then none else (metRow m r).bind fun m => some m) = _
    simp [metAll]
  | q :: ms, r, i, m => by
    rw [List.cons_append, metAll, metAll]
    by_cases h : i ≥ m
    · rw [if_pos h, if_pos h]; rfl
    · rw [if_neg h, if_neg h]
      cases e : metRow m q with
      | none => rfl
      | some m1 =>
        show metAll (i + 1) m1 (ms ++ [r]) = (metAll (i + 1) m1 ms).bind _
        rw [met_app ms r]
        congr 1
        funext m'
        have : i + 1 + ms.length = i + (q :: ms).length := by rw [List.length_cons]; omega
        rw [this]
theorem inL_int (x : Nat) (o : List Nat) : inL (.int (x : Int)) (intsN o) = decide (x ∈ o) := by
  rw [Bool.eq_iff_iff, decide_eq_true_iff]
  unfold inL intsN
  rw [List.any_map, List.any_eq_true]
  refine ⟨fun ⟨y, h1, h2⟩ => ?_, fun h => ⟨x, h, by simp [PyData.eqv]⟩⟩
  have : y = x := by
    simp [PyData.eqv] at h2
    omega
  exact this ▸ h1
theorem okL (o : List Nat) : okD (.list (intsN o)) = true := okD_of (Nat.le_trans (dep_intsN o) (by omega))
theorem okI (i : Int) : okD (.int i) = true := rfl
theorem findIdx_int (x : Nat) : ∀ (o : List Nat), x ∈ o → (intsN o).findIdx? (fun z => PyData.eqv z (.int (x : Int))) = some (o.idxOf x)
  | y :: o, h => by
    show (PyData.int (y : Int) :: intsN o).findIdx? _ = _
    rw [List.findIdx?_cons, List.idxOf_cons]
    have e : PyData.eqv (.int (y : Int)) (.int (x : Int)) = (y == x) := by
      rw [Bool.eq_iff_iff]
      simp [PyData.eqv]
      omega
    rw [e]
    by_cases hy : y = x
    · simp [hy]
    · have h2 : x ∈ o := by
        rcases List.mem_cons.mp h with h | h
        · exact absurd h.symm hy
        · exact h
      have hb : (y == x) = false := by simp [hy]
      simp [hb, findIdx_int x o h2]
theorem g19_4 (C : Ctx) (s0 s1 s2 s3 s4 s5 s6 s9 : Sl) : ∀ (g : List (Nat × Nat)) (o : List Nat) (s7 s10 : Sl), o.length + g.length ≤ 1000 → ∃ t7 t10, forGo (.tp [.nm 7, .nm 10]) (evSs C l19_4) (g.map encP) [s0, s1, s2, s3, s4, s5, s6, s7, .o (intsN o), s9, s10] = .ok .next [s0, s1, s2, s3, s4, s5, s6, t7, .o (intsN (ordG o g)), s9, t10]
  | [], o, s7, s10, _ => ⟨s7, s10, rfl⟩
  | (l, x) :: g, o, s7, s10, h => by
    rw [List.length_cons] at h
    have hl : (ordF o x).length ≤ o.length + 1 := by
      unfold ordF
      split
      · omega
      · rw [List.length_append, List.length_singleton]; omega
    obtain ⟨t7, t10, e⟩ := g19_4 C s0 s1 s2 s3 s4 s5 s6 s9 g (ordF o x) (.v (.int l)) (.v (.int x)) (by omega)
    refine ⟨t7, t10, ?_⟩
    rw [List.map_cons, forGo_next (env1 := [s0, s1, s2, s3, s4, s5, s6, .v (.int l), .o (intsN o), s9, .v (.int x)]) (env2 := [s0, s1, s2, s3, s4, s5, s6, .v (.int l), .o (intsN (ordF o x)), s9, .v (.int x)]) rfl (by
      have q1 : (intsN o).length + 1 ≤ lineMax := by rw [intsN_len]; unfold lineMax; omega
      have q2 : (intsN o).length ≤ lineMax := by rw [intsN_len]; unfold lineMax; omega
      by_cases hx : x ∈ o
      · have e1 : ordF o x = o := if_pos hx
        simp [-List.map_map, Core.pyEq_int, Core.pyLt_int, Core.evSs, Core.evS.eq_1, Core.evS.eq_2, Core.evS.eq_3, Core.evS.eq_4, Core.evS.eq_5, Core.evS.eq_6, Core.evS.eq_7, Core.evS.eq_10, Core.evS.eq_11, Core.evS.eq_12, Core.evS.eq_13, Core.evS.eq_14, Core.evS.eq_15, Core.evE.eq_1, Core.evE.eq_2, Core.evE.eq_3, Core.evE.eq_4, Core.evE.eq_5, Core.evE.eq_6, Core.evE.eq_7, Core.evE.eq_8, Core.evE.eq_9, Core.evE.eq_10, Core.evE.eq_11, Core.evE.eq_12, Core.evE.eq_13, Core.evE.eq_14, Core.evE.eq_15, Core.evE.eq_16, Core.evEs, Core.evRs, Core.evC, Core.evI, Core.evT, Core.evV, Core.evHolds, Core.setAll, Core.Out.bind, Core.Out.ofO, Core.hold, Core.frz, Core.peek, Core.mk, Core.isLst, Core.isB, Core.do1, Core.do2, Core.doSl, Core.partD, Core.dupFree, Core.bors, Core.isOwn, Core.passArgs, Core.backArgs, Core.ctx_callf, Core.ctx_io, Core.ctx_turns, Core.finish, Core.handBack, Core.outPs, Core.entry, Core.bindT, Core.bindTs, Core.wipe, Core.back, Core.walkItems, Core.bound, Core.boolsOf, l19_4, okL, okI, inL_int, hx, q2, e1]
      · have e1 : ordF o x = o ++ [x] := if_neg hx
        simp [-List.map_map, Core.pyEq_int, Core.pyLt_int, Core.evSs, Core.evS.eq_1, Core.evS.eq_2, Core.evS.eq_3, Core.evS.eq_4, Core.evS.eq_5, Core.evS.eq_6, Core.evS.eq_7, Core.evS.eq_10, Core.evS.eq_11, Core.evS.eq_12, Core.evS.eq_13, Core.evS.eq_14, Core.evS.eq_15, Core.evE.eq_1, Core.evE.eq_2, Core.evE.eq_3, Core.evE.eq_4, Core.evE.eq_5, Core.evE.eq_6, Core.evE.eq_7, Core.evE.eq_8, Core.evE.eq_9, Core.evE.eq_10, Core.evE.eq_11, Core.evE.eq_12, Core.evE.eq_13, Core.evE.eq_14, Core.evE.eq_15, Core.evE.eq_16, Core.evEs, Core.evRs, Core.evC, Core.evI, Core.evT, Core.evV, Core.evHolds, Core.setAll, Core.Out.bind, Core.Out.ofO, Core.hold, Core.frz, Core.peek, Core.mk, Core.isLst, Core.isB, Core.do1, Core.do2, Core.doSl, Core.partD, Core.dupFree, Core.bors, Core.isOwn, Core.passArgs, Core.backArgs, Core.ctx_callf, Core.ctx_io, Core.ctx_turns, Core.finish, Core.handBack, Core.outPs, Core.entry, Core.bindT, Core.bindTs, Core.wipe, Core.back, Core.walkItems, Core.bound, Core.boolsOf, l19_4, okL, okI, inL_int, hx, q1, e1, intsN_snoc]), e]
    rfl
theorem go_at {gs : List (List (Nat × Nat))} {h : Nat} (hh : h < gs.length) : atI (gs.map encL) (h : Int) = some (encL (gs[h]?.getD [])) := by
  have : ixN (gs.map encL).length (h : Int) = some h := by
    unfold ixN
    rw [List.length_map, if_pos (by omega), if_pos (by omega)]
    simp
  unfold atI
  rw [this]
  show (gs.map encL)[h]? = _
  rw [List.getElem?_map, List.getElem?_eq_getElem hh]
  rfl
theorem ord_at {o : List Nat} {i : Nat} (hi : i < o.length) : atI (intsN o) (i : Int) = some (.int (o[i]?.getD 0 : Nat)) := by
  have : ixN (intsN o).length (i : Int) = some i := by
    unfold ixN
    rw [intsN_len, if_pos (by omega), if_pos (by omega)]
    simp
  unfold atI
  rw [this]
  show (o.map fun (i : Nat) => PyData.int (i : Int))[i]? = _
  rw [List.getElem?_map, List.getElem?_eq_getElem hi]
  rfl
/-- the numbering's state -/
structure NumOk (m : Nat) (gs : List (List (Nat × Nat))) (o : List Nat) (fs : List (List (Nat × Nat))) : Prop where
  nd : o.Nodup
  lt : ∀ x ∈ o, x < m
  pos : 1 ≤ o.length
  le : fs.length ≤ o.length
  met : metAll 0 1 fs = some o.length
  rows : ∀ r ∈ fs, r.length ≤ 3 ∧ (∀ p ∈ r, p.1 ≤ 15 ∧ p.2 < o.length) ∧ asc (r.map fun p => (p.1 : Int)) = true
theorem ordG_nd : ∀ (g : List (Nat × Nat)) (o : List Nat), o.Nodup → (ordG o g).Nodup
  | [], o, h => h
  | p :: g, o, h => by
    refine ordG_nd g (ordF o p.2) ?_
    unfold ordF
    split
    · exact h
    · rename_i hx
      rw [List.nodup_append]
      exact ⟨h, by simp, fun a ha b hb e => by
        rw [List.mem_singleton] at hb
        subst e; subst hb
        exact hx ha⟩
theorem ordG_lt {m : Nat} : ∀ (g : List (Nat × Nat)) (o : List Nat), (∀ x ∈ o, x < m) → (∀ p ∈ g, p.2 < m) → ∀ x ∈ ordG o g, x < m
  | [], o, h, _ => h
  | p :: g, o, h, hg => by
    refine ordG_lt g (ordF o p.2) (fun x hx => ?_) (fun q hq => hg q (List.mem_cons_of_mem _ hq))
    unfold ordF at hx
    split at hx
    · exact h x hx
    · rcases List.mem_append.mp hx with hx | hx
      · exact h x hx
      · rw [List.mem_singleton] at hx
        rw [hx]; exact hg p List.mem_cons_self
theorem NumOk.step {m : Nat} {gs : List (List (Nat × Nat))} {o : List Nat} {fs : List (List (Nat × Nat))} (h : NumOk m gs o fs) (hlt : fs.length < o.length) {g : List (Nat × Nat)} (hg : GoOk m g) : NumOk m gs (ordG o g) (fs ++ [rowF (ordG o g) g]) := by
  obtain ⟨r, hr⟩ := ordG_pre g o
  have hle : o.length ≤ (ordG o g).length := by rw [hr, List.length_append]; omega
  refine ⟨ordG_nd g o h.nd, ordG_lt g o h.lt fun p hp => (hg.2.1 p hp).2, ?_, ?_, ?_, fun q hq => ?_⟩
  · have := h.pos; omega
  · rw [List.length_append, List.length_singleton]; omega
  · rw [met_app, h.met]
    show (if 0 + fs.length ≥ o.length then none else metRow o.length (rowF (ordG o g) g)) = _
    rw [if_neg (by omega)]
    have := met_row g o []
    rw [List.append_nil] at this
    exact this
  · rcases List.mem_append.mp hq with hq | hq
    · obtain ⟨h1, h2, h3⟩ := h.rows q hq
      exact ⟨h1, fun p hp => ⟨(h2 p hp).1, by have := (h2 p hp).2; omega⟩, h3⟩
    · rw [List.mem_singleton] at hq
      subst hq
      refine ⟨by unfold rowF; rw [List.length_map]; exact hg.1, fun p hp => ?_, ?_⟩
      · obtain ⟨z, hz, rfl⟩ := List.mem_map.mp hp
        exact ⟨(hg.2.1 z hz).1, List.idxOf_lt_length_of_mem ((ordG_mem g o).2 z hz)⟩
      · unfold rowF
        rw [List.map_map]
        exact hg.2.2
theorem g19_6 (C : Ctx) (m : Nat) (hm : m ≤ 7) (gs : List (List (Nat × Nat))) (hgl : gs.length = m) (hgs : ∀ g ∈ gs, GoOk m g) (o : List Nat) (fs : List (List (Nat × Nat))) (h : NumOk m gs o fs) (hlt : fs.length < o.length) (s0 s1 s3 s4 s5 s6 s7 s10 : Sl) : ∃ o' fs' t7 t10, NumOk m gs o' fs' ∧ fs'.length = fs.length + 1 ∧
    evSs C l19_6 [s0, s1, .o (gs.map encL), s3, s4, s5, s6, s7, .o (intsN o), .o (fs.map encR), s10] = .ok .next [s0, s1, .o (gs.map encL), s3, s4, s5, s6, t7, .o (intsN o'), .o (fs'.map encR), t10] := by
  have ho : o.length ≤ m := pig m o h.nd h.lt
  have hx := h.lt (o[fs.length]?.getD 0) (by
    rw [List.getElem?_eq_getElem hlt]
    exact List.getElem_mem _)
  generalize hX : o[fs.length]?.getD 0 = x at hx
  have ea := ord_at hlt
  rw [hX] at ea
  have eb := go_at (gs := gs) (h := x) (by omega)
  have hg : GoOk m (gs[x]?.getD []) := by
    rw [List.getElem?_eq_getElem (by omega)]
    exact hgs _ (List.getElem_mem _)
  generalize hG : gs[x]?.getD [] = g at eb hg
  obtain ⟨t7, t10, e1⟩ := g19_4 C s0 s1 (.o (gs.map encL)) s3 s4 s5 s6 (.o (fs.map encR)) g o s7 s10 (by have := hg.1; omega)
  have hS := h.step hlt hg
  have hO : (ordG o g).length ≤ m := pig m _ hS.nd hS.lt
  obtain ⟨r, hr⟩ := ordG_pre g o
  have hlt2 : fs.length < (ordG o g).length := by rw [hr, List.length_append]; omega
  have ea2 := ord_at hlt2
  have hX2 : (ordG o g)[fs.length]?.getD 0 = x := by rw [hr, List.getElem?_append_left hlt, hX]
  rw [hX2] at ea2
  refine ⟨ordG o g, fs ++ [rowF (ordG o g) g], t7, t10, hS, by simp, ?_⟩
  have hI : evS C (.for_ (.tp [(.nm 7), (.nm 10)]) (.seq (.o2 .idx (.var 2) (.o2 .idx (.var 8) (.o1 .len (.var 9))))) l19_4) [s0, s1, .o (gs.map encL), s3, s4, s5, s6, s7, .o (intsN o), .o (fs.map encR), s10] = .ok .next [s0, s1, .o (gs.map encL), s3, s4, s5, s6, t7, .o (intsN (ordG o g)), .o (fs.map encR), t10] := by
    rw [evS]
    simp [-List.map_map, Core.pyEq_int, Core.pyLt_int, Core.evSs, Core.evS.eq_1, Core.evS.eq_2, Core.evS.eq_3, Core.evS.eq_4, Core.evS.eq_5, Core.evS.eq_6, Core.evS.eq_7, Core.evS.eq_10, Core.evS.eq_11, Core.evS.eq_12, Core.evS.eq_13, Core.evS.eq_14, Core.evS.eq_15, Core.evE.eq_1, Core.evE.eq_2, Core.evE.eq_3, Core.evE.eq_4, Core.evE.eq_5, Core.evE.eq_6, Core.evE.eq_7, Core.evE.eq_8, Core.evE.eq_9, Core.evE.eq_10, Core.evE.eq_11, Core.evE.eq_12, Core.evE.eq_13, Core.evE.eq_14, Core.evE.eq_15, Core.evE.eq_16, Core.evEs, Core.evRs, Core.evC, Core.evI, Core.evT, Core.evV, Core.evHolds, Core.setAll, Core.Out.bind, Core.Out.ofO, Core.hold, Core.frz, Core.peek, Core.mk, Core.isLst, Core.isB, Core.do1, Core.do2, Core.doSl, Core.partD, Core.dupFree, Core.bors, Core.isOwn, Core.passArgs, Core.backArgs, Core.ctx_callf, Core.ctx_io, Core.ctx_turns, Core.finish, Core.handBack, Core.outPs, Core.entry, Core.bindT, Core.bindTs, Core.wipe, Core.back, Core.walkItems, Core.bound, Core.boolsOf, ea, eb, encL, e1]
  have q5 : evE C q19_5 [s0, s1, .o (gs.map encL), s3, s4, s5, s6, t7, .o (intsN (ordG o g)), .o (fs.map encR), t10] = .ok (.n (.list ((rowF (ordG o g) g).map encP))) [s0, s1, .o (gs.map encL), s3, s4, s5, s6, t7, .o (intsN (ordG o g)), .o (fs.map encR), t10] := by
    refine lc_map (fun d => match d with | .tuple [.int l, .int x] => .tuple [.int l, .int ((ordG o g).idxOf x.toNat : Nat)] | _ => .none) (xs := g.map encP) (env1 := [s0, s1, .o (gs.map encL), s3, s4, s5, s6, t7, .o (intsN (ordG o g)), .o (fs.map encR), t10]) ?_ (fun d hd => ?_) (by unfold rowF; rw [List.map_map, List.map_map]; rfl) rfl
    · simp [-List.map_map, Core.pyEq_int, Core.pyLt_int, Core.evSs, Core.evS.eq_1, Core.evS.eq_2, Core.evS.eq_3, Core.evS.eq_4, Core.evS.eq_5, Core.evS.eq_6, Core.evS.eq_7, Core.evS.eq_10, Core.evS.eq_11, Core.evS.eq_12, Core.evS.eq_13, Core.evS.eq_14, Core.evS.eq_15, Core.evE.eq_1, Core.evE.eq_2, Core.evE.eq_3, Core.evE.eq_4, Core.evE.eq_5, Core.evE.eq_6, Core.evE.eq_7, Core.evE.eq_8, Core.evE.eq_9, Core.evE.eq_10, Core.evE.eq_11, Core.evE.eq_12, Core.evE.eq_13, Core.evE.eq_14, Core.evE.eq_15, Core.evE.eq_16, Core.evEs, Core.evRs, Core.evC, Core.evI, Core.evT, Core.evV, Core.evHolds, Core.setAll, Core.Out.bind, Core.Out.ofO, Core.hold, Core.frz, Core.peek, Core.mk, Core.isLst, Core.isB, Core.do1, Core.do2, Core.doSl, Core.partD, Core.dupFree, Core.bors, Core.isOwn, Core.passArgs, Core.backArgs, Core.ctx_callf, Core.ctx_io, Core.ctx_turns, Core.finish, Core.handBack, Core.outPs, Core.entry, Core.bindT, Core.bindTs, Core.wipe, Core.back, Core.walkItems, Core.bound, Core.boolsOf, ea2, eb, encL]
    · obtain ⟨⟨l, y⟩, hp, rfl⟩ := List.mem_map.mp hd
      have hy := (ordG_mem g o).2 _ hp
      have hf := findIdx_int y _ hy
      refine ⟨[s0, s1, .o (gs.map encL), s3, s4, s5, s6, .v (.int l), .o (intsN (ordG o g)), .o (fs.map encR), .v (.int y)], rfl, ?_, rfl⟩
      simp [-List.map_map, Core.pyEq_int, Core.pyLt_int, Core.evSs, Core.evS.eq_1, Core.evS.eq_2, Core.evS.eq_3, Core.evS.eq_4, Core.evS.eq_5, Core.evS.eq_6, Core.evS.eq_7, Core.evS.eq_10, Core.evS.eq_11, Core.evS.eq_12, Core.evS.eq_13, Core.evS.eq_14, Core.evS.eq_15, Core.evE.eq_1, Core.evE.eq_2, Core.evE.eq_3, Core.evE.eq_4, Core.evE.eq_5, Core.evE.eq_6, Core.evE.eq_7, Core.evE.eq_8, Core.evE.eq_9, Core.evE.eq_10, Core.evE.eq_11, Core.evE.eq_12, Core.evE.eq_13, Core.evE.eq_14, Core.evE.eq_15, Core.evE.eq_16, Core.evEs, Core.evRs, Core.evC, Core.evI, Core.evT, Core.evV, Core.evHolds, Core.setAll, Core.Out.bind, Core.Out.ofO, Core.hold, Core.frz, Core.peek, Core.mk, Core.isLst, Core.isB, Core.do1, Core.do2, Core.doSl, Core.partD, Core.dupFree, Core.bors, Core.isOwn, Core.passArgs, Core.backArgs, Core.ctx_callf, Core.ctx_io, Core.ctx_turns, Core.finish, Core.handBack, Core.outPs, Core.entry, Core.bindT, Core.bindTs, Core.wipe, Core.back, Core.walkItems, Core.bound, Core.boolsOf, okL, okI, hf, encP]
  have hlen : fs.length < lineMax := by unfold lineMax; omega
  simp [-List.map_map, Core.pyEq_int, Core.pyLt_int, Core.evSs, Core.evS.eq_1, Core.evS.eq_2, Core.evS.eq_3, Core.evS.eq_4, Core.evS.eq_5, Core.evS.eq_6, Core.evS.eq_7, Core.evS.eq_10, Core.evS.eq_11, Core.evS.eq_12, Core.evS.eq_13, Core.evS.eq_14, Core.evS.eq_15, Core.evE.eq_1, Core.evE.eq_2, Core.evE.eq_3, Core.evE.eq_4, Core.evE.eq_5, Core.evE.eq_6, Core.evE.eq_7, Core.evE.eq_8, Core.evE.eq_9, Core.evE.eq_10, Core.evE.eq_11, Core.evE.eq_12, Core.evE.eq_13, Core.evE.eq_14, Core.evE.eq_15, Core.evE.eq_16, Core.evEs, Core.evRs, Core.evC, Core.evI, Core.evT, Core.evV, Core.evHolds, Core.setAll, Core.Out.bind, Core.Out.ofO, Core.hold, Core.frz, Core.peek, Core.mk, Core.isLst, Core.isB, Core.do1, Core.do2, Core.doSl, Core.partD, Core.dupFree, Core.bors, Core.isOwn, Core.passArgs, Core.backArgs, Core.ctx_callf, Core.ctx_io, Core.ctx_turns, Core.finish, Core.handBack, Core.outPs, Core.entry, Core.bindT, Core.bindTs, Core.wipe, Core.back, Core.walkItems, Core.bound, Core.boolsOf, l19_6, hI, q5, hlen]
  rfl
theorem g19_w (C : Ctx) (m : Nat) (hm : m ≤ 7) (gs : List (List (Nat × Nat))) (hgl : gs.length = m) (hgs : ∀ g ∈ gs, GoOk m g) (s0 s1 s3 s4 s5 s6 : Sl) : ∀ (q fuel : Nat) (o : List Nat) (fs : List (List (Nat × Nat))) (s7 s10 : Sl), NumOk m gs o fs → m < fs.length + q → q < fuel →
    ∃ o' fs' t7 t10, NumOk m gs o' fs' ∧ fs'.length = o'.length ∧ whileGo (evT C t19_3) (evSs C l19_6) fuel [s0, s1, .o (gs.map encL), s3, s4, s5, s6, s7, .o (intsN o), .o (fs.map encR), s10] = .ok .next [s0, s1, .o (gs.map encL), s3, s4, s5, s6, t7, .o (intsN o'), .o (fs'.map encR), t10]
  | q, 0, o, fs, s7, s10, h, h1, h2 => by omega
  | q, fuel + 1, o, fs, s7, s10, h, h1, h2 => by
    have ho : o.length ≤ m := pig m o h.nd h.lt
    have hle := h.le
    by_cases hc : fs.length < o.length
    · obtain ⟨o', fs', t7, t10, k1, k2, k3⟩ := g19_6 C m hm gs hgl hgs o fs h hc s0 s1 s3 s4 s5 s6 s7 s10
      cases q with
      | zero => omega
      | succ q =>
        obtain ⟨o2, fs2, u7, u10, j1, j2, j3⟩ := g19_w C m hm gs hgl hgs s0 s1 s3 s4 s5 s6 q fuel o' fs' t7 t10 k1 (by omega) (by omega)
        refine ⟨o2, fs2, u7, u10, j1, j2, ?_⟩
        rw [whileGo_go (by
          have hc' : ((fs.length : Int) < (o.length : Int)) := by omega
          simp [-List.map_map, Core.pyEq_int, Core.pyLt_int, Core.evSs, Core.evS.eq_1, Core.evS.eq_2, Core.evS.eq_3, Core.evS.eq_4, Core.evS.eq_5, Core.evS.eq_6, Core.evS.eq_7, Core.evS.eq_10, Core.evS.eq_11, Core.evS.eq_12, Core.evS.eq_13, Core.evS.eq_14, Core.evS.eq_15, Core.evE.eq_1, Core.evE.eq_2, Core.evE.eq_3, Core.evE.eq_4, Core.evE.eq_5, Core.evE.eq_6, Core.evE.eq_7, Core.evE.eq_8, Core.evE.eq_9, Core.evE.eq_10, Core.evE.eq_11, Core.evE.eq_12, Core.evE.eq_13, Core.evE.eq_14, Core.evE.eq_15, Core.evE.eq_16, Core.evEs, Core.evRs, Core.evC, Core.evI, Core.evT, Core.evV, Core.evHolds, Core.setAll, Core.Out.bind, Core.Out.ofO, Core.hold, Core.frz, Core.peek, Core.mk, Core.isLst, Core.isB, Core.do1, Core.do2, Core.doSl, Core.partD, Core.dupFree, Core.bors, Core.isOwn, Core.passArgs, Core.backArgs, Core.ctx_callf, Core.ctx_io, Core.ctx_turns, Core.finish, Core.handBack, Core.outPs, Core.entry, Core.bindT, Core.bindTs, Core.wipe, Core.back, Core.walkItems, Core.bound, Core.boolsOf, t19_3, hc', intsN_len]) k3, j3]
    · refine ⟨o, fs, s7, s10, h, by omega, ?_⟩
      exact whileGo_end (by
        have hc' : ¬ ((fs.length : Int) < (o.length : Int)) := by omega
        simp [-List.map_map, Core.pyEq_int, Core.pyLt_int, Core.evSs, Core.evS.eq_1, Core.evS.eq_2, Core.evS.eq_3, Core.evS.eq_4, Core.evS.eq_5, Core.evS.eq_6, Core.evS.eq_7, Core.evS.eq_10, Core.evS.eq_11, Core.evS.eq_12, Core.evS.eq_13, Core.evS.eq_14, Core.evS.eq_15, Core.evE.eq_1, Core.evE.eq_2, Core.evE.eq_3, Core.evE.eq_4, Core.evE.eq_5, Core.evE.eq_6, Core.evE.eq_7, Core.evE.eq_8, Core.evE.eq_9, Core.evE.eq_10, Core.evE.eq_11, Core.evE.eq_12, Core.evE.eq_13, Core.evE.eq_14, Core.evE.eq_15, Core.evE.eq_16, Core.evEs, Core.evRs, Core.evC, Core.evI, Core.evT, Core.evV, Core.evHolds, Core.setAll, Core.Out.bind, Core.Out.ofO, Core.hold, Core.frz, Core.peek, Core.mk, Core.isLst, Core.isB, Core.do1, Core.do2, Core.doSl, Core.partD, Core.dupFree, Core.bors, Core.isOwn, Core.passArgs, Core.backArgs, Core.ctx_callf, Core.ctx_io, Core.ctx_turns, Core.finish, Core.handBack, Core.outPs, Core.entry, Core.bindT, Core.bindTs, Core.wipe, Core.back, Core.walkItems, Core.bound, Core.boolsOf, t19_3, hc', intsN_len])
theorem f19 (k : Nat) (a b : Int) (m : Nat) (h1 : 1 ≤ m) (h5 : m ≤ 7) : ∃ (ms : Mv) (a' b' : Int), callK P (k + 3) 19 [.o [.int a, .int b], .v (.int (m : Int))] = .ok (encM ms) false [.o [.int a', .int b'], .v (.int (m : Int))] ∧ MovesOk ms ∧ ms.length ≤ 7 ∧ ∀ r ∈ ms, r.length ≤ 3 := by
  rw [callK_eq (cf := cf19) rfl rfl]
  obtain ⟨env1, e1, gs, a1, b1, t3, t4, t6, hgl, hgs, rfl⟩ := forGo_inv (tg := .nm 3) (body := evSs (P.ctx (callK P (k + 2))) l19_2) (fun i e => ∃ (gs : List (List (Nat × Nat))) (a' b' : Int) (t3 t4 t6 : Sl), gs.length = i ∧ (∀ g ∈ gs, GoOk m g) ∧ e = [.o [.int a', .int b'], .v (.int (m : Int)), .o (gs.map encL), t3, t4, .no, t6, .no, .no, .no, .no]) (rngD 0 m) 0 (fun j x hx env ⟨gs, a', b', t3, t4, t6, g1, g2, g3⟩ => by
    have hj : j < m ∧ x = .int (j : Int) := by
      unfold rngD at hx
      rw [List.getElem?_map] at hx
      by_cases hj : j < m
      · rw [List.getElem?_range hj] at hx
        refine ⟨hj, ?_⟩
        have := (Option.some.inj hx).symm
        simpa using this
      · rw [List.getElem?_eq_none (by simpa using hj)] at hx
        cases hx
    obtain ⟨hj, rfl⟩ := hj
    obtain ⟨g, a2, b2, u4, u6, hg, hev⟩ := g19_2 k m h1 h5 a' b' j hj gs t4 t6 .no .no .no .no (by omega)
    subst g3
    exact ⟨_, _, rfl, hev, gs ++ [g], a2, b2, .v (.int (j : Int)), u4, u6, by simp; omega, fun z hz => by
      rcases List.mem_append.mp hz with hz | hz
      · exact g2 z hz
      · rw [List.mem_singleton] at hz; rw [hz]; exact hg, rfl⟩) [.o [.int a, .int b], .v (.int (m : Int)), .o [], .no, .no, .no, .no, .no, .no, .no, .no] ⟨[], a, b, .no, .no, .no, rfl, (fun g h => by cases h), rfl⟩
  have hgl' : gs.length = m := by rw [hgl]; simp [rngD]
  obtain ⟨o, fs, t7, t10, n1, n2, e2⟩ := g19_w (P.ctx (callK P (k + 2))) m h5 gs hgl' hgs (.o [.int a1, .int b1]) (.v (.int (m : Int))) t3 t4 .no t6 (m + 1) 1000000 [0] [] .no .no ⟨by simp, fun x hx => by simp at hx; omega, by simp, by simp, rfl, fun r h => by cases h⟩ (by simp) (by omega)
  have ho : o.length ≤ m := pig m o n1.nd n1.lt
  refine ⟨fs, a1, b1, ?_, ⟨by have := n1.pos; omega, by omega, fun r hr => ?_, ?_⟩, by omega, fun r hr => (n1.rows r hr).1⟩
  · have hI1 : evS (P.ctx (callK P (k + 2))) (.for_ (.nm 3) (.rng (.var 1)) l19_2) [.o [.int a, .int b], .v (.int (m : Int)), .o [], .no, .no, .no, .no, .no, .no, .no, .no] = .ok .next [.o [.int a1, .int b1], .v (.int (m : Int)), .o (gs.map encL), t3, t4, .no, t6, .no, .no, .no, .no] := by
      rw [evS]
      have h1 : (-16000000 : Int) ≤ m := by omega
      have h2 : (m : Int) ≤ 16000000 := by omega
      simp [-List.map_map, Core.pyEq_int, Core.pyLt_int, Core.evSs, Core.evS.eq_1, Core.evS.eq_2, Core.evS.eq_3, Core.evS.eq_4, Core.evS.eq_5, Core.evS.eq_6, Core.evS.eq_7, Core.evS.eq_10, Core.evS.eq_11, Core.evS.eq_12, Core.evS.eq_13, Core.evS.eq_14, Core.evS.eq_15, Core.evE.eq_1, Core.evE.eq_2, Core.evE.eq_3, Core.evE.eq_4, Core.evE.eq_5, Core.evE.eq_6, Core.evE.eq_7, Core.evE.eq_8, Core.evE.eq_9, Core.evE.eq_10, Core.evE.eq_11, Core.evE.eq_12, Core.evE.eq_13, Core.evE.eq_14, Core.evE.eq_15, Core.evE.eq_16, Core.evEs, Core.evRs, Core.evC, Core.evI, Core.evT, Core.evV, Core.evHolds, Core.setAll, Core.Out.bind, Core.Out.ofO, Core.hold, Core.frz, Core.peek, Core.mk, Core.isLst, Core.isB, Core.do1, Core.do2, Core.doSl, Core.partD, Core.dupFree, Core.bors, Core.isOwn, Core.passArgs, Core.backArgs, Core.ctx_callf, Core.ctx_io, Core.ctx_turns, Core.finish, Core.handBack, Core.outPs, Core.entry, Core.bindT, Core.bindTs, Core.wipe, Core.back, Core.walkItems, Core.bound, Core.boolsOf, h1, h2, e1]
    have hI2 : evS (P.ctx (callK P (k + 2))) (.whl t19_3 l19_6) [.o [.int a1, .int b1], .v (.int (m : Int)), .o (gs.map encL), t3, t4, .no, t6, .no, .o [.int 0], .o [], .no] = .ok .next [.o [.int a1, .int b1], .v (.int (m : Int)), .o (gs.map encL), t3, t4, .no, t6, t7, .o (intsN o), .o (fs.map encR), t10] := by
      rw [evS]
      exact e2
    simp [-List.map_map, Core.pyEq_int, Core.pyLt_int, Core.evSs, Core.evS.eq_1, Core.evS.eq_2, Core.evS.eq_3, Core.evS.eq_4, Core.evS.eq_5, Core.evS.eq_6, Core.evS.eq_7, Core.evS.eq_10, Core.evS.eq_11, Core.evS.eq_12, Core.evS.eq_13, Core.evS.eq_14, Core.evS.eq_15, Core.evE.eq_1, Core.evE.eq_2, Core.evE.eq_3, Core.evE.eq_4, Core.evE.eq_5, Core.evE.eq_6, Core.evE.eq_7, Core.evE.eq_8, Core.evE.eq_9, Core.evE.eq_10, Core.evE.eq_11, Core.evE.eq_12, Core.evE.eq_13, Core.evE.eq_14, Core.evE.eq_15, Core.evE.eq_16, Core.evEs, Core.evRs, Core.evC, Core.evI, Core.evT, Core.evV, Core.evHolds, Core.setAll, Core.Out.bind, Core.Out.ofO, Core.hold, Core.frz, Core.peek, Core.mk, Core.isLst, Core.isB, Core.do1, Core.do2, Core.doSl, Core.partD, Core.dupFree, Core.bors, Core.isOwn, Core.passArgs, Core.backArgs, Core.ctx_callf, Core.ctx_io, Core.ctx_turns, Core.finish, Core.handBack, Core.outPs, Core.entry, Core.bindT, Core.bindTs, Core.wipe, Core.back, Core.walkItems, Core.bound, Core.boolsOf, cf19, b19, hI1, hI2, encM]
  · obtain ⟨r1, r2, r3⟩ := n1.rows r hr
    exact ⟨by omega, fun p hp => ⟨(r2 p hp).1, by have := (r2 p hp).2; omega⟩, r3⟩
  · show metAll 0 1 fs = some fs.length
    rw [n1.met, n2]
end C65
end Core
end

section
set_option linter.all false
set_option autoImplicit false
set_option maxRecDepth 100000
namespace Core
open PySem PySem.W
namespace C65
open B
/-! ### _law_reached -/
theorem insS_mem (x y : Int) : ∀ (l : List Int), y ∈ insS (fun a b => decide (a < b)) x l ↔ y = x ∨ y ∈ l
  | [] => by simp [insS]
  | z :: l => by
    unfold insS
    by_cases h1 : x < z
    · rw [if_pos (decide_eq_true h1)]; simp
    · rw [if_neg (by simpa using h1)]
      by_cases h2 : z < x
      · rw [if_pos (decide_eq_true h2), List.mem_cons, insS_mem x y l, List.mem_cons]
        constructor
        · rintro (h | h | h)
          · exact .inr (.inl h)
          · exact .inl h
          · exact .inr (.inr h)
        · rintro (h | h | h)
          · exact .inr (.inl h)
          · exact .inl h
          · exact .inr (.inr h)
      · rw [if_neg (by simpa using h2)]
        have : x = z := by omega
        subst this
        simp
theorem setI_mem (y : Int) : ∀ (l : List Int), y ∈ setI l ↔ y ∈ l
  | [] => Iff.rfl
  | x :: l => by
    show y ∈ insS _ x (setI l) ↔ _
    rw [insS_mem, setI_mem y l, List.mem_cons]
theorem asc_head : ∀ {x : Int} {l : List Int}, asc (x :: l) = true → ∀ y ∈ l, x < y
  | x, [], _, y, h => by cases h
  | x, z :: l, ha, y, h => by
    rw [asc, Bool.and_eq_true, decide_eq_true_iff] at ha
    rcases List.mem_cons.mp h with rfl | h
    · exact ha.1
    · have := asc_head ha.2 y h
      omega
theorem asc_tail {x : Int} {l : List Int} (h : asc (x :: l) = true) : asc l = true := by
  cases l with
  | nil => rfl
  | cons z l =>
    rw [asc, Bool.and_eq_true] at h
    exact h.2
theorem asc_nd : ∀ {l : List Int}, asc l = true → l.Nodup
  | [], _ => by simp
  | x :: l, h => by
    rw [List.nodup_cons]
    exact ⟨fun hx => by have := asc_head h x hx; omega, asc_nd (asc_tail h)⟩
theorem sub_len {α : Type} [BEq α] [LawfulBEq α] : ∀ (l m : List α), l.Nodup → (∀ x ∈ l, x ∈ m) → l.length ≤ m.length
  | [], m, _, _ => Nat.zero_le _
  | x :: l, m, hd, h => by
    rw [List.nodup_cons] at hd
    have h1 := sub_len l (m.erase x) hd.2 fun y hy => by
      have hne : y ≠ x := fun e => hd.1 (e ▸ hy)
      exact (List.mem_erase_of_ne hne).mpr (h y (List.mem_cons_of_mem _ hy))
    have hx := h x List.mem_cons_self
    have h2 := List.length_erase_of_mem hx
    have h3 : 0 < m.length := List.length_pos_of_mem hx
    rw [List.length_cons]
    omega
structure SetOk (ms : Mv) (s : Nat) (l : List Int) : Prop where
  asc : asc l = true
  rch : ∀ y ∈ l, ∃ x : Nat, y = (x : Int) ∧ x < ms.length ∧ Rch ms s x
  has : (s : Int) ∈ l
theorem SetOk.len {ms : Mv} {s : Nat} {l : List Int} (h : SetOk ms s l) : l.length ≤ ms.length := by
  have := sub_len l ((List.range ms.length).map fun (i : Nat) => (i : Int)) (asc_nd h.asc) fun y hy => by
    obtain ⟨x, rfl, hx, _⟩ := h.rch y hy
    exact List.mem_map.mpr ⟨x, List.mem_range.mpr hx, rfl⟩
  simpa using this
/-- the new list of one state's moves -/
def newT (ms : Mv) (at_ : Nat) (l : List Int) : List Int := ((row ms at_).filter fun p => !(l.contains (p.2 : Int))).map fun p => (p.2 : Int)
def stepR (ms : Mv) (at_ : Nat) (l : List Int) : List Int := setI (l ++ newT ms at_ l)
theorem stepR_ok {ms : Mv} {s : Nat} {l : List Int} (hi : In ms) (h : SetOk ms s l) {x : Nat} (hx : (x : Int) ∈ l) : SetOk ms s (stepR ms x l) ∧ (∀ y ∈ l, y ∈ stepR ms x l) ∧ ∀ p ∈ row ms x, (p.2 : Int) ∈ stepR ms x l := by
  have hr : Rch ms s x := by
    obtain ⟨z, e, _, hz⟩ := h.rch _ hx
    have : z = x := by omega
    exact this ▸ hz
  refine ⟨⟨asc_setI _, fun y hy => ?_, (setI_mem _ _).mpr (List.mem_append_left _ h.has)⟩, fun y hy => (setI_mem _ _).mpr (List.mem_append_left _ hy), fun p hp => (setI_mem _ _).mpr ?_⟩
  · rcases List.mem_append.mp ((setI_mem _ _).mp hy) with hy | hy
    · exact h.rch y hy
    · obtain ⟨p, hp, rfl⟩ := List.mem_map.mp hy
      have hp := (List.mem_filter.mp hp).1
      exact ⟨p.2, rfl, hi x p hp, .go hr hp⟩
  · by_cases hc : (p.2 : Int) ∈ l
    · exact List.mem_append_left _ hc
    · exact List.mem_append_right _ (List.mem_map.mpr ⟨p, List.mem_filter.mpr ⟨hp, by simp [hc]⟩, rfl⟩)
theorem dep_ints (xs : List Int) : dep (.list (xs.map PyData.int)) ≤ 1 := by
  rw [dep]
  have := depAll_le (n := 0) (xs := xs.map PyData.int) fun x hx => by
    obtain ⟨p, _, rfl⟩ := List.mem_map.mp hx
    simp [dep]
  omega
theorem okZ (o : List Int) : okD (.list (o.map PyData.int)) = true := okD_of (Nat.le_trans (dep_ints o) (by omega))
theorem inL_z (x : Int) (l : List Int) : inL (.int x) (l.map PyData.int) = l.contains x := by
  rw [Bool.eq_iff_iff, List.contains_iff_mem]
  unfold inL
  rw [List.any_map, List.any_eq_true]
  refine ⟨fun ⟨y, h1, h2⟩ => ?_, fun h => ⟨x, h, by simp [PyData.eqv]⟩⟩
  have : y = x := by
    simp [PyData.eqv] at h2
    omega
  exact this ▸ h1
theorem g20_1 (C : Ctx) (ms : Mv) (hr : ∀ r ∈ ms, r.length ≤ 16) (hn : ms.length ≤ 7) (s1 s3 : Sl) (l : List Int) (hl : l.length ≤ 7) (x : Nat) (hx : x < ms.length) (s5 s6 : Sl) :
    evSs C l20_1 [.v (encM ms), s1, .o (l.map PyData.int), s3, .v (.int (x : Int)), s5, s6] = .ok .next [.v (encM ms), s1, .o ((stepR ms x l).map PyData.int), s3, .v (.int (x : Int)), s5, s6] := by
  have ra := row_at hx
  have rl : (row ms x).length ≤ 16 := by
    unfold row
    rw [List.getElem?_eq_getElem hx]
    exact hr _ (List.getElem_mem _)
  have nl : (newT ms x l).length ≤ 16 := by
    unfold newT
    rw [List.length_map]
    exact Nat.le_trans (List.length_filter_le _ _) rl
  have q0 : evE C q20_0 [.v (encM ms), s1, .o (l.map PyData.int), s3, .v (.int (x : Int)), s5, s6] = .ok (.n (.list ((newT ms x l).map PyData.int))) [.v (encM ms), s1, .o (l.map PyData.int), s3, .v (.int (x : Int)), s5, s6] := by
    refine lc_pure (fun d => match d with | .tuple [_, .int y] => !(l.contains y) | _ => false) (fun d => match d with | .tuple [_, y] => y | _ => .none) (xs := (row ms x).map encP) (env1 := [.v (encM ms), s1, .o (l.map PyData.int), s3, .v (.int (x : Int)), s5, s6]) ?_ (fun d hd => ?_) ?_ rfl
    · have e : encM ms = .tuple (ms.map encR) := rfl
      rw [e]
      simp [-List.map_map, Core.pyEq_int, Core.pyLt_int, Core.evSs, Core.evS.eq_1, Core.evS.eq_2, Core.evS.eq_3, Core.evS.eq_4, Core.evS.eq_5, Core.evS.eq_6, Core.evS.eq_7, Core.evS.eq_10, Core.evS.eq_11, Core.evS.eq_12, Core.evS.eq_13, Core.evS.eq_14, Core.evS.eq_15, Core.evE.eq_1, Core.evE.eq_2, Core.evE.eq_3, Core.evE.eq_4, Core.evE.eq_5, Core.evE.eq_6, Core.evE.eq_7, Core.evE.eq_8, Core.evE.eq_9, Core.evE.eq_10, Core.evE.eq_11, Core.evE.eq_12, Core.evE.eq_13, Core.evE.eq_14, Core.evE.eq_15, Core.evE.eq_16, Core.evEs, Core.evRs, Core.evC, Core.evI, Core.evT, Core.evV, Core.evHolds, Core.setAll, Core.Out.bind, Core.Out.ofO, Core.hold, Core.frz, Core.peek, Core.mk, Core.isLst, Core.isB, Core.do1, Core.do2, Core.doSl, Core.partD, Core.dupFree, Core.bors, Core.isOwn, Core.passArgs, Core.backArgs, Core.ctx_callf, Core.ctx_io, Core.ctx_turns, Core.finish, Core.handBack, Core.outPs, Core.entry, Core.bindT, Core.bindTs, Core.wipe, Core.back, Core.walkItems, Core.bound, Core.boolsOf, ra, encR]
    · obtain ⟨⟨a, y⟩, _, rfl⟩ := List.mem_map.mp hd
      refine ⟨[.v (encM ms), s1, .o (l.map PyData.int), s3, .v (.int (x : Int)), .v (.int (a : Int)), .v (.int (y : Int))], rfl, ?_, fun _ => ?_, rfl⟩
      · simp [-List.map_map, Core.pyEq_int, Core.pyLt_int, Core.evSs, Core.evS.eq_1, Core.evS.eq_2, Core.evS.eq_3, Core.evS.eq_4, Core.evS.eq_5, Core.evS.eq_6, Core.evS.eq_7, Core.evS.eq_10, Core.evS.eq_11, Core.evS.eq_12, Core.evS.eq_13, Core.evS.eq_14, Core.evS.eq_15, Core.evE.eq_1, Core.evE.eq_2, Core.evE.eq_3, Core.evE.eq_4, Core.evE.eq_5, Core.evE.eq_6, Core.evE.eq_7, Core.evE.eq_8, Core.evE.eq_9, Core.evE.eq_10, Core.evE.eq_11, Core.evE.eq_12, Core.evE.eq_13, Core.evE.eq_14, Core.evE.eq_15, Core.evE.eq_16, Core.evEs, Core.evRs, Core.evC, Core.evI, Core.evT, Core.evV, Core.evHolds, Core.setAll, Core.Out.bind, Core.Out.ofO, Core.hold, Core.frz, Core.peek, Core.mk, Core.isLst, Core.isB, Core.do1, Core.do2, Core.doSl, Core.partD, Core.dupFree, Core.bors, Core.isOwn, Core.passArgs, Core.backArgs, Core.ctx_callf, Core.ctx_io, Core.ctx_turns, Core.finish, Core.handBack, Core.outPs, Core.entry, Core.bindT, Core.bindTs, Core.wipe, Core.back, Core.walkItems, Core.bound, Core.boolsOf, okI, okZ, inL_z, encP]
        by_cases hc : (y : Int) ∈ l
        · simp [hc]
        · simp [hc]
      · simp [-List.map_map, Core.pyEq_int, Core.pyLt_int, Core.evSs, Core.evS.eq_1, Core.evS.eq_2, Core.evS.eq_3, Core.evS.eq_4, Core.evS.eq_5, Core.evS.eq_6, Core.evS.eq_7, Core.evS.eq_10, Core.evS.eq_11, Core.evS.eq_12, Core.evS.eq_13, Core.evS.eq_14, Core.evS.eq_15, Core.evE.eq_1, Core.evE.eq_2, Core.evE.eq_3, Core.evE.eq_4, Core.evE.eq_5, Core.evE.eq_6, Core.evE.eq_7, Core.evE.eq_8, Core.evE.eq_9, Core.evE.eq_10, Core.evE.eq_11, Core.evE.eq_12, Core.evE.eq_13, Core.evE.eq_14, Core.evE.eq_15, Core.evE.eq_16, Core.evEs, Core.evRs, Core.evC, Core.evI, Core.evT, Core.evV, Core.evHolds, Core.setAll, Core.Out.bind, Core.Out.ofO, Core.hold, Core.frz, Core.peek, Core.mk, Core.isLst, Core.isB, Core.do1, Core.do2, Core.doSl, Core.partD, Core.dupFree, Core.bors, Core.isOwn, Core.passArgs, Core.backArgs, Core.ctx_callf, Core.ctx_io, Core.ctx_turns, Core.finish, Core.handBack, Core.outPs, Core.entry, Core.bindT, Core.bindTs, Core.wipe, Core.back, Core.walkItems, Core.bound, Core.boolsOf, encP]
    · unfold newT
      rw [List.filter_map, List.map_map, List.map_map]
      rfl
  have hs := sset_ints (l ++ newT ms x l) (by rw [List.length_append]; omega)
  have hlen : l.length + (newT ms x l).length ≤ lineMax := by unfold lineMax; omega
  have happ : l.map PyData.int ++ (newT ms x l).map PyData.int = (l ++ newT ms x l).map PyData.int := (List.map_append ..).symm
  rw [l20_1, evSs, evS]
  have q1 : evE C (.o2 .add (.var 2) q20_0) [.v (encM ms), s1, .o (l.map PyData.int), s3, .v (.int (x : Int)), s5, s6] = .ok (.n (.list ((l ++ newT ms x l).map PyData.int))) [.v (encM ms), s1, .o (l.map PyData.int), s3, .v (.int (x : Int)), s5, s6] := by
    simp [-List.map_map, Core.pyEq_int, Core.pyLt_int, Core.evSs, Core.evS.eq_1, Core.evS.eq_2, Core.evS.eq_3, Core.evS.eq_4, Core.evS.eq_5, Core.evS.eq_6, Core.evS.eq_7, Core.evS.eq_10, Core.evS.eq_11, Core.evS.eq_12, Core.evS.eq_13, Core.evS.eq_14, Core.evS.eq_15, Core.evE.eq_1, Core.evE.eq_2, Core.evE.eq_3, Core.evE.eq_4, Core.evE.eq_5, Core.evE.eq_6, Core.evE.eq_7, Core.evE.eq_8, Core.evE.eq_9, Core.evE.eq_10, Core.evE.eq_11, Core.evE.eq_12, Core.evE.eq_13, Core.evE.eq_14, Core.evE.eq_15, Core.evE.eq_16, Core.evEs, Core.evRs, Core.evC, Core.evI, Core.evT, Core.evV, Core.evHolds, Core.setAll, Core.Out.bind, Core.Out.ofO, Core.hold, Core.frz, Core.peek, Core.mk, Core.isLst, Core.isB, Core.do1, Core.do2, Core.doSl, Core.partD, Core.dupFree, Core.bors, Core.isOwn, Core.passArgs, Core.backArgs, Core.ctx_callf, Core.ctx_io, Core.ctx_turns, Core.finish, Core.handBack, Core.outPs, Core.entry, Core.bindT, Core.bindTs, Core.wipe, Core.back, Core.walkItems, Core.bound, Core.boolsOf, q0, hlen]
  rw [q1]
  simp only [Out.bind, hold, List.set_cons_succ, List.set_cons_zero]
  have e2 : evE C (.o1 .sset (.var 2)) [.v (encM ms), s1, .o ((l ++ newT ms x l).map PyData.int), s3, .v (.int (x : Int)), s5, s6] = .ok (.n (.list ((stepR ms x l).map PyData.int))) [.v (encM ms), s1, .o ((l ++ newT ms x l).map PyData.int), s3, .v (.int (x : Int)), s5, s6] := by
    rw [evE.eq_6, evE.eq_1]
    simp only [List.getElem?_cons_succ, List.getElem?_cons_zero, Out.bind, peek, Option.bind_some, do1, hs, mk, isLst]
    rfl
  rw [evSs, evS, e2]
  rfl
theorem g20_2 (C : Ctx) (ms : Mv) (hi : In ms) (hr : ∀ r ∈ ms, r.length ≤ 16) (hn : ms.length ≤ 7) (s : Nat) (s1 s3 : Sl) : ∀ (zs : List Int) (l : List Int) (s4 s5 s6 : Sl), SetOk ms s l → (∀ z ∈ zs, z ∈ l) →
    ∃ l' t4, SetOk ms s l' ∧ (∀ y ∈ l, y ∈ l') ∧ (∀ z ∈ zs, ∀ x : Nat, z = (x : Int) → ∀ p ∈ row ms x, (p.2 : Int) ∈ l') ∧
      forGo (.nm 4) (evSs C l20_1) (zs.map PyData.int) [.v (encM ms), s1, .o (l.map PyData.int), s3, s4, s5, s6] = .ok .next [.v (encM ms), s1, .o (l'.map PyData.int), s3, t4, s5, s6]
  | [], l, s4, s5, s6, h, _ => ⟨l, s4, h, fun y hy => hy, (fun z hz => by cases hz), rfl⟩
  | z :: zs, l, s4, s5, s6, h, hz => by
    obtain ⟨x, rfl, hx, _⟩ := h.rch z (hz z List.mem_cons_self)
    obtain ⟨k1, k2, k3⟩ := stepR_ok hi h (hz _ List.mem_cons_self)
    obtain ⟨l', t4, j1, j2, j3, j4⟩ := g20_2 C ms hi hr hn s s1 s3 zs (stepR ms x l) (.v (.int (x : Int))) s5 s6 k1 fun y hy => k2 y (hz y (List.mem_cons_of_mem _ hy))
    refine ⟨l', t4, j1, fun y hy => j2 y (k2 y hy), fun y hy => ?_, ?_⟩
    · rcases List.mem_cons.mp hy with rfl | hy
      · intro x' e p hp
        have : x' = x := by omega
        subst this
        exact j2 _ (k3 p hp)
      · exact j3 y hy
    · rw [List.map_cons, forGo_next rfl (g20_1 C ms hr hn s1 s3 l (by have := h.len; omega) x hx s5 s6)]
      exact j4
def Clo (ms : Mv) (l : List Int) : Prop := ∀ x : Nat, (x : Int) ∈ l → ∀ p ∈ row ms x, (p.2 : Int) ∈ l
theorem Clo.rch {ms : Mv} {s : Nat} {l : List Int} (h : Clo ms l) (hs : (s : Int) ∈ l) {x : Nat} (r : Rch ms s x) : (x : Int) ∈ l := by
  induction r with
  | zero => exact hs
  | go _ hp ih => exact h _ ih _ hp
theorem sorted_ints (zs : List Int) : ∃ ys : List Int, sortD (zs.map PyData.int) = ys.map PyData.int ∧ ∀ y, y ∈ ys ↔ y ∈ zs := by
  have h : ∀ d ∈ sortD (zs.map PyData.int), ∃ i : Int, d = .int i := fun d hd => by
    obtain ⟨i, _, rfl⟩ := List.mem_map.mp (List.mem_mergeSort.mp hd)
    exact ⟨i, rfl⟩
  have conv : ∀ (ds : List D), (∀ d ∈ ds, ∃ i : Int, d = .int i) → ∃ ys : List Int, ds = ys.map PyData.int := fun ds => by
    induction ds with
    | nil => exact fun _ => ⟨[], rfl⟩
    | cons d ds ih =>
      intro h
      obtain ⟨i, rfl⟩ := h d List.mem_cons_self
      obtain ⟨ys, rfl⟩ := ih fun y hy => h y (List.mem_cons_of_mem _ hy)
      exact ⟨i :: ys, rfl⟩
  obtain ⟨ys, e⟩ := conv _ h
  refine ⟨ys, e, fun y => ?_⟩
  have h1 : PyData.int y ∈ ys.map PyData.int ↔ PyData.int y ∈ zs.map PyData.int := by
    rw [← e]; exact List.mem_mergeSort
  have h2 : ∀ l : List Int, PyData.int y ∈ l.map PyData.int ↔ y ∈ l := fun l =>
    ⟨fun h => by obtain ⟨z, hz, e⟩ := List.mem_map.mp h; exact PyData.int.inj e ▸ hz, fun h => List.mem_map.mpr ⟨y, h, rfl⟩⟩
  rw [← h2, ← h2, h1]
theorem sortable_ints (zs : List Int) : sortable (zs.map PyData.int) = true := by
  unfold sortable
  rw [Bool.and_eq_true, Bool.and_eq_true, Bool.or_eq_true]
  refine ⟨⟨?_, .inr ?_⟩, ?_⟩
  · unfold allAlike
    rw [List.all_eq_true]
    intro x hx
    rw [List.all_eq_true]
    intro y hy
    obtain ⟨i, _, rfl⟩ := List.mem_map.mp hx
    obtain ⟨j, _, rfl⟩ := List.mem_map.mp hy
    simp [alike]
  · rw [List.all_eq_true]
    intro x hx
    obtain ⟨i, _, rfl⟩ := List.mem_map.mp hx
    rfl
  · rw [List.all_eq_true]
    intro x hx
    obtain ⟨i, _, rfl⟩ := List.mem_map.mp hx
    rfl
theorem asc_of_pw : ∀ {l : List Int}, l.Pairwise (fun a b => a ≤ b) → l.Nodup → asc l = true
  | [], _, _ => rfl
  | [x], _, _ => rfl
  | x :: y :: l, h, hd => by
    rw [List.pairwise_cons] at h
    rw [List.nodup_cons] at hd
    rw [asc, Bool.and_eq_true, decide_eq_true_iff]
    have h1 := h.1 y List.mem_cons_self
    have h2 : x ≠ y := fun e => hd.1 (e ▸ List.mem_cons_self)
    exact ⟨by omega, asc_of_pw h.2 hd.2⟩
theorem sort_ints (l : List Int) (hd : l.Nodup) : ∃ ys, sortD (l.map PyData.int) = ys.map PyData.int ∧ asc ys = true ∧ ∀ x, x ∈ ys ↔ x ∈ l := by
  refine ⟨l.mergeSort (fun a b => decide (a ≤ b)), ?_, ?_, fun x => List.mem_mergeSort⟩
  · unfold sortD
    rw [List.map_mergeSort (s := dataLe false id)]
    intro a _ b _
    rw [dataLe_eq]
    show decide (a ≤ b) = !dataLt (.int b) (.int a)
    rw [dataLt_int, Bool.eq_iff_iff]
    simp
  · refine asc_of_pw ?_ ((List.mergeSort_perm l _).nodup_iff.mpr hd)
    have := List.pairwise_mergeSort (le := fun a b : Int => decide (a ≤ b)) (fun a b c h1 h2 => by simp at *; omega) (fun a b => by simp; omega) l
    exact this.imp fun h => by simpa using h
theorem f20 (k : Nat) {ms : Mv} (h : MovesOk ms) (hn : ms.length ≤ 7) {s : Nat} (hs : s < ms.length) : ∃ zs : List Int, callK P (k + 1) 20 [.v (encM ms), .v (.int (s : Int))] = .ok (.tuple (zs.map PyData.int)) false [.v (encM ms), .v (.int (s : Int))] ∧ asc zs = true ∧ (∀ y ∈ zs, ∃ x : Nat, y = (x : Int)) ∧ ∀ x : Nat, (x : Int) ∈ zs ↔ Rch ms s x := by
  rw [callK_eq (cf := cf20) rfl rfl]
  have hr : ∀ r ∈ ms, r.length ≤ 16 := fun r hr => (h.2.2.1 r hr).1
  obtain ⟨env1, e1, l, t3, t4, w1, w2, rfl⟩ := forGo_inv (tg := .nm 3) (body := evSs (P.ctx (callK P k)) l20_2) (fun i e => ∃ (l : List Int) (t3 t4 : Sl), SetOk ms s l ∧ (Clo ms l ∨ i + 1 ≤ l.length) ∧ e = [.v (encM ms), .v (.int (s : Int)), .o (l.map PyData.int), t3, t4, .no, .no]) (rngD 0 ms.length) 0 (fun j x hx env ⟨l, t3, t4, g1, g2, g3⟩ => by
    obtain ⟨l', u4, j1, j2, j3, j4⟩ := g20_2 (P.ctx (callK P k)) ms h.In hr hn s (.v (.int (s : Int))) (.v x) l l t4 .no .no g1 fun z hz => hz
    subst g3
    refine ⟨_, [.v (encM ms), .v (.int (s : Int)), .o (l'.map PyData.int), .v x, u4, .no, .no], rfl, ?_, l', .v x, u4, j1, ?_, rfl⟩
    · have hI : evS (P.ctx (callK P k)) (.for_ (.nm 4) (.seq (.o1 .list_ (.var 2))) l20_1) [.v (encM ms), .v (.int (s : Int)), .o (l.map PyData.int), .v x, t4, .no, .no] = .ok .next [.v (encM ms), .v (.int (s : Int)), .o (l'.map PyData.int), .v x, u4, .no, .no] := by
        rw [evS]
        simp [-List.map_map, Core.pyEq_int, Core.pyLt_int, Core.evSs, Core.evS.eq_1, Core.evS.eq_2, Core.evS.eq_3, Core.evS.eq_4, Core.evS.eq_5, Core.evS.eq_6, Core.evS.eq_7, Core.evS.eq_10, Core.evS.eq_11, Core.evS.eq_12, Core.evS.eq_13, Core.evS.eq_14, Core.evS.eq_15, Core.evE.eq_1, Core.evE.eq_2, Core.evE.eq_3, Core.evE.eq_4, Core.evE.eq_5, Core.evE.eq_6, Core.evE.eq_7, Core.evE.eq_8, Core.evE.eq_9, Core.evE.eq_10, Core.evE.eq_11, Core.evE.eq_12, Core.evE.eq_13, Core.evE.eq_14, Core.evE.eq_15, Core.evE.eq_16, Core.evEs, Core.evRs, Core.evC, Core.evI, Core.evT, Core.evV, Core.evHolds, Core.setAll, Core.Out.bind, Core.Out.ofO, Core.hold, Core.frz, Core.peek, Core.mk, Core.isLst, Core.isB, Core.do1, Core.do2, Core.doSl, Core.partD, Core.dupFree, Core.bors, Core.isOwn, Core.passArgs, Core.backArgs, Core.ctx_callf, Core.ctx_io, Core.ctx_turns, Core.finish, Core.handBack, Core.outPs, Core.entry, Core.bindT, Core.bindTs, Core.wipe, Core.back, Core.walkItems, Core.bound, Core.boolsOf, j4]
      simp only [List.set_cons_succ, List.set_cons_zero]
      simp [-List.map_map, Core.pyEq_int, Core.pyLt_int, Core.evSs, Core.evS.eq_1, Core.evS.eq_2, Core.evS.eq_3, Core.evS.eq_4, Core.evS.eq_5, Core.evS.eq_6, Core.evS.eq_7, Core.evS.eq_10, Core.evS.eq_11, Core.evS.eq_12, Core.evS.eq_13, Core.evS.eq_14, Core.evS.eq_15, Core.evE.eq_1, Core.evE.eq_2, Core.evE.eq_3, Core.evE.eq_4, Core.evE.eq_5, Core.evE.eq_6, Core.evE.eq_7, Core.evE.eq_8, Core.evE.eq_9, Core.evE.eq_10, Core.evE.eq_11, Core.evE.eq_12, Core.evE.eq_13, Core.evE.eq_14, Core.evE.eq_15, Core.evE.eq_16, Core.evEs, Core.evRs, Core.evC, Core.evI, Core.evT, Core.evV, Core.evHolds, Core.setAll, Core.Out.bind, Core.Out.ofO, Core.hold, Core.frz, Core.peek, Core.mk, Core.isLst, Core.isB, Core.do1, Core.do2, Core.doSl, Core.partD, Core.dupFree, Core.bors, Core.isOwn, Core.passArgs, Core.backArgs, Core.ctx_callf, Core.ctx_io, Core.ctx_turns, Core.finish, Core.handBack, Core.outPs, Core.entry, Core.bindT, Core.bindTs, Core.wipe, Core.back, Core.walkItems, Core.bound, Core.boolsOf, l20_2, hI]
    · by_cases hc : Clo ms l
      · left
        intro x hx p hp
        obtain ⟨x', e, _, r⟩ := j1.rch _ hx
        have : x' = x := by omega
        subst this
        exact j2 _ (hc _ (hc.rch g1.has r) p hp)
      · right
        have g2 := g2.resolve_left hc
        have : ∃ c, c ∉ l ∧ c ∈ l' := by
          apply Classical.byContradiction
          intro hno
          refine hc fun x hx p hp => ?_
          apply Classical.byContradiction
          intro hcc
          exact hno ⟨_, hcc, j3 _ hx x rfl p hp⟩
        obtain ⟨c, c1, c2⟩ := this
        have := sub_len (c :: l) l' (List.nodup_cons.mpr ⟨c1, asc_nd g1.asc⟩) fun y hy => by
          rcases List.mem_cons.mp hy with rfl | hy
          · exact c2
          · exact j2 y hy
        rw [List.length_cons] at this
        omega) [.v (encM ms), .v (.int (s : Int)), .o [.int (s : Int)], .no, .no, .no, .no] ⟨[(s : Int)], .no, .no, ⟨rfl, fun y hy => by
          rw [List.mem_singleton] at hy
          exact ⟨s, hy, hs, .zero⟩, List.mem_cons_self⟩, .inr (by simp), rfl⟩
  have hc : Clo ms l := by
    rcases w2 with w2 | w2
    · exact w2
    · have := w1.len
      simp [rngD] at w2
      omega
  obtain ⟨ys, hy1, hya, hy2⟩ := sort_ints l (asc_nd w1.asc)
  refine ⟨ys, ?_, hya, fun y hy => ?_, fun x => ?_⟩
  · have h1 : (-16000000 : Int) ≤ ms.length := by omega
    have h2 : (ms.length : Int) ≤ 16000000 := by omega
    have hI : evS (P.ctx (callK P k)) (.for_ (.nm 3) (.rng (.o1 .len (.var 0))) l20_2) [.v (encM ms), .v (.int (s : Int)), .o [.int (s : Int)], .no, .no, .no, .no] = .ok .next [.v (encM ms), .v (.int (s : Int)), .o (l.map PyData.int), t3, t4, .no, .no] := by
      rw [evS]
      have e : encM ms = .tuple (ms.map encR) := rfl
      rw [e] at e1 ⊢
      simp [-List.map_map, Core.pyEq_int, Core.pyLt_int, Core.evSs, Core.evS.eq_1, Core.evS.eq_2, Core.evS.eq_3, Core.evS.eq_4, Core.evS.eq_5, Core.evS.eq_6, Core.evS.eq_7, Core.evS.eq_10, Core.evS.eq_11, Core.evS.eq_12, Core.evS.eq_13, Core.evS.eq_14, Core.evS.eq_15, Core.evE.eq_1, Core.evE.eq_2, Core.evE.eq_3, Core.evE.eq_4, Core.evE.eq_5, Core.evE.eq_6, Core.evE.eq_7, Core.evE.eq_8, Core.evE.eq_9, Core.evE.eq_10, Core.evE.eq_11, Core.evE.eq_12, Core.evE.eq_13, Core.evE.eq_14, Core.evE.eq_15, Core.evE.eq_16, Core.evEs, Core.evRs, Core.evC, Core.evI, Core.evT, Core.evV, Core.evHolds, Core.setAll, Core.Out.bind, Core.Out.ofO, Core.hold, Core.frz, Core.peek, Core.mk, Core.isLst, Core.isB, Core.do1, Core.do2, Core.doSl, Core.partD, Core.dupFree, Core.bors, Core.isOwn, Core.passArgs, Core.backArgs, Core.ctx_callf, Core.ctx_io, Core.ctx_turns, Core.finish, Core.handBack, Core.outPs, Core.entry, Core.bindT, Core.bindTs, Core.wipe, Core.back, Core.walkItems, Core.bound, Core.boolsOf, h1, h2, e1]
    simp [-List.map_map, Core.pyEq_int, Core.pyLt_int, Core.evSs, Core.evS.eq_1, Core.evS.eq_2, Core.evS.eq_3, Core.evS.eq_4, Core.evS.eq_5, Core.evS.eq_6, Core.evS.eq_7, Core.evS.eq_10, Core.evS.eq_11, Core.evS.eq_12, Core.evS.eq_13, Core.evS.eq_14, Core.evS.eq_15, Core.evE.eq_1, Core.evE.eq_2, Core.evE.eq_3, Core.evE.eq_4, Core.evE.eq_5, Core.evE.eq_6, Core.evE.eq_7, Core.evE.eq_8, Core.evE.eq_9, Core.evE.eq_10, Core.evE.eq_11, Core.evE.eq_12, Core.evE.eq_13, Core.evE.eq_14, Core.evE.eq_15, Core.evE.eq_16, Core.evEs, Core.evRs, Core.evC, Core.evI, Core.evT, Core.evV, Core.evHolds, Core.setAll, Core.Out.bind, Core.Out.ofO, Core.hold, Core.frz, Core.peek, Core.mk, Core.isLst, Core.isB, Core.do1, Core.do2, Core.doSl, Core.partD, Core.dupFree, Core.bors, Core.isOwn, Core.passArgs, Core.backArgs, Core.ctx_callf, Core.ctx_io, Core.ctx_turns, Core.finish, Core.handBack, Core.outPs, Core.entry, Core.bindT, Core.bindTs, Core.wipe, Core.back, Core.walkItems, Core.bound, Core.boolsOf, cf20, b20, hI, sortable_ints, hy1]
  · obtain ⟨x, e, _⟩ := w1.rch y ((hy2 y).mp hy)
    exact ⟨x, e⟩
  · rw [hy2]
    refine ⟨fun hx => ?_, fun r => hc.rch w1.has r⟩
    obtain ⟨x', e, _, r⟩ := w1.rch _ hx
    have : x' = x := by omega
    exact this ▸ r
end C65
end Core
end

section
set_option linter.all false
set_option autoImplicit false
set_option maxRecDepth 100000
set_option maxHeartbeats 4000000
namespace Core
open PySem PySem.W
namespace C65
open B
/-! ### lots -/
theorem asc_uniq : ∀ {a b : List Int}, asc a = true → asc b = true → (∀ x, x ∈ a ↔ x ∈ b) → a = b
  | [], [], _, _, _ => rfl
  | [], y :: b, _, _, h => by have := (h y).mpr List.mem_cons_self; cases this
  | x :: a, [], _, _, h => by have := (h x).mp List.mem_cons_self; cases this
  | x :: a, y :: b, ha, hb, h => by
    have hx := (h x).mp List.mem_cons_self
    have hy := (h y).mpr List.mem_cons_self
    have e : x = y := by
      rcases List.mem_cons.mp hx with e | hx
      · exact e
      · rcases List.mem_cons.mp hy with e | hy
        · exact e.symm
        · have := asc_head ha y hy
          have := asc_head hb x hx
          omega
    subst e
    congr 1
    refine asc_uniq (asc_tail ha) (asc_tail hb) fun z => ?_
    have hz := h z
    rw [List.mem_cons, List.mem_cons] at hz
    refine ⟨fun hza => ?_, fun hzb => ?_⟩
    · rcases hz.mp (.inr hza) with e | q
      · have := asc_head ha z hza; omega
      · exact q
    · rcases hz.mpr (.inr hzb) with e | q
      · have := asc_head hb z hzb; omega
      · exact q
/-- whom s reaches, in order -/
noncomputable def lot (ms : Mv) (s : Nat) : List Nat := (List.range ms.length).filter (rchB ms s)
def toI (l : List Nat) : List Int := l.map fun (i : Nat) => (i : Int)
theorem encN_toI (l : List Nat) : encN l = .tuple ((toI l).map PyData.int) := by
  unfold encN toI
  rw [List.map_map]
  rfl
theorem asc_range (f : Nat → Bool) : ∀ (l : List Nat), l.Pairwise (fun a b => a < b) → asc (toI (l.filter f)) = true := fun l h => by
  have h2 : (toI (l.filter f)).Pairwise (fun a b => a < b) := by
    unfold toI
    rw [List.pairwise_map]
    exact (h.filter f).imp fun h => by omega
  refine asc_of_pw (h2.imp fun h => by omega) ?_
  exact h2.imp fun h => by omega
theorem lot_asc (ms : Mv) (s : Nat) : asc (toI (lot ms s)) = true := asc_range _ _ List.pairwise_lt_range
theorem rch_lt {ms : Mv} (hi : In ms) {s : Nat} (hs : s < ms.length) {x : Nat} (r : Rch ms s x) : x < ms.length := by
  induction r with
  | zero => exact hs
  | go _ hp _ => exact hi _ _ hp
theorem mem_lot {ms : Mv} (hi : In ms) {s x : Nat} (hs : s < ms.length) : x ∈ lot ms s ↔ Rch ms s x := by
  unfold lot
  rw [List.mem_filter, List.mem_range, rchB_iff]
  exact ⟨fun h => h.2, fun r => ⟨rch_lt hi hs r, r⟩⟩
theorem mem_toI {l : List Nat} {x : Nat} : (x : Int) ∈ toI l ↔ x ∈ l := by
  unfold toI
  rw [List.mem_map]
  exact ⟨fun ⟨y, h1, h2⟩ => by have : y = x := by omega
                               exact this ▸ h1, fun h => ⟨x, h, rfl⟩⟩
theorem lot_eq {ms : Mv} (hi : In ms) {s : Nat} (hs : s < ms.length) {ys : List Int} (ha : asc ys = true) (h : ∀ y ∈ ys, ∃ x : Nat, y = (x : Int)) (hm : ∀ x : Nat, (x : Int) ∈ ys ↔ Rch ms s x) : ys = toI (lot ms s) := by
  refine asc_uniq ha (lot_asc ms s) fun y => ?_
  refine ⟨fun hy => ?_, fun hy => ?_⟩
  · obtain ⟨x, rfl⟩ := h y hy
    exact mem_toI.mpr ((mem_lot hi hs).mpr ((hm x).mp hy))
  · obtain ⟨x, hx, rfl⟩ := List.mem_map.mp hy
    exact (hm x).mpr ((mem_lot hi hs).mp hx)
theorem f11 (k : Nat) {ms : Mv} (hi : In ms) (hn : ms.length ≤ 300) {s : Nat} (hs : s < ms.length) : callK P (k + 2) 11 [.v (encM ms), .v (.int (s : Int))] = .ok (encN (lot ms s)) false [.v (encM ms), .v (.int (s : Int))] := by
  rw [callK_eq (cf := cf11) rfl rfl]
  obtain ⟨t, h1, h2, h3, h4⟩ := f7 k ms hi hn s hs
  have hkeys : (encF (G ms s (t + 1))).map (·.1) = (toI ((G ms s (t + 1)).map (·.1))).map PyData.int := by
    unfold encF toI
    rw [List.map_map, List.map_map, List.map_map]
    rfl
  have hnd : ((G ms s (t + 1)).map (·.1)).Nodup := addAll_nodup _ _ (by simp)
  have hnd2 : (toI ((G ms s (t + 1)).map (·.1))).Nodup := by
    unfold toI List.Nodup
    rw [List.pairwise_map]
    exact hnd.imp fun h => by omega
  obtain ⟨ys, y1, y2, y3⟩ := sort_ints _ hnd2
  have hys : ys = toI (lot ms s) := by
    refine lot_eq hi hs y2 (fun y hy => ?_) fun x => ?_
    · obtain ⟨x, _, rfl⟩ := List.mem_map.mp ((y3 y).mp hy)
      exact ⟨x, rfl⟩
    · rw [y3, mem_toI, ← has_iff h1 h2]
      unfold has
      rw [List.any_eq_true, List.mem_map]
      exact ⟨fun ⟨p, p1, p2⟩ => ⟨p, p1, by simp [p2]⟩, fun ⟨p, p1, p2⟩ => ⟨p, p1, by simpa using p2⟩⟩
  have hlen : (encF (G ms s (t + 1))).length ≤ lineMax := by
    rw [encF_len]
    have := G_len hi hs (t + 1)
    unfold lineMax; omega
  have hso := sortable_ints (toI ((G ms s (t + 1)).map (·.1)))
  rw [← hkeys] at y1 hso
  rw [hys, ← List.map_id ((toI (lot ms s)).map PyData.int)] at y1
  rw [encN_toI]
  simp [-List.map_map, Core.pyEq_int, Core.pyLt_int, Core.evSs, Core.evS.eq_1, Core.evS.eq_2, Core.evS.eq_3, Core.evS.eq_4, Core.evS.eq_5, Core.evS.eq_6, Core.evS.eq_7, Core.evS.eq_10, Core.evS.eq_11, Core.evS.eq_12, Core.evS.eq_13, Core.evS.eq_14, Core.evS.eq_15, Core.evE.eq_1, Core.evE.eq_2, Core.evE.eq_3, Core.evE.eq_4, Core.evE.eq_5, Core.evE.eq_6, Core.evE.eq_7, Core.evE.eq_8, Core.evE.eq_9, Core.evE.eq_10, Core.evE.eq_11, Core.evE.eq_12, Core.evE.eq_13, Core.evE.eq_14, Core.evE.eq_15, Core.evE.eq_16, Core.evEs, Core.evRs, Core.evC, Core.evI, Core.evT, Core.evV, Core.evHolds, Core.setAll, Core.Out.bind, Core.Out.ofO, Core.hold, Core.frz, Core.peek, Core.mk, Core.isLst, Core.isB, Core.do1, Core.do2, Core.doSl, Core.partD, Core.dupFree, Core.bors, Core.isOwn, Core.passArgs, Core.backArgs, Core.ctx_callf, Core.ctx_io, Core.ctx_turns, Core.finish, Core.handBack, Core.outPs, Core.entry, Core.bindT, Core.bindTs, Core.wipe, Core.back, Core.walkItems, Core.bound, Core.boolsOf, cf11, b11, h4, hso, hlen, y1]
theorem f14 (k : Nat) {ms : Mv} (h : MovesOk ms) {s : Nat} (hs : s < ms.length) : callK P (k + 6) 14 [.v (encM ms), .v (.int (s : Int))] = .ok (encN (lot ms s)) false [.v (encM ms), .v (.int (s : Int))] := by
  rw [callK_eq (cf := cf14) rfl rfl]
  simp [-List.map_map, Core.pyEq_int, Core.pyLt_int, Core.evSs, Core.evS.eq_1, Core.evS.eq_2, Core.evS.eq_3, Core.evS.eq_4, Core.evS.eq_5, Core.evS.eq_6, Core.evS.eq_7, Core.evS.eq_10, Core.evS.eq_11, Core.evS.eq_12, Core.evS.eq_13, Core.evS.eq_14, Core.evS.eq_15, Core.evE.eq_1, Core.evE.eq_2, Core.evE.eq_3, Core.evE.eq_4, Core.evE.eq_5, Core.evE.eq_6, Core.evE.eq_7, Core.evE.eq_8, Core.evE.eq_9, Core.evE.eq_10, Core.evE.eq_11, Core.evE.eq_12, Core.evE.eq_13, Core.evE.eq_14, Core.evE.eq_15, Core.evE.eq_16, Core.evEs, Core.evRs, Core.evC, Core.evI, Core.evT, Core.evV, Core.evHolds, Core.setAll, Core.Out.bind, Core.Out.ofO, Core.hold, Core.frz, Core.peek, Core.mk, Core.isLst, Core.isB, Core.do1, Core.do2, Core.doSl, Core.partD, Core.dupFree, Core.bors, Core.isOwn, Core.passArgs, Core.backArgs, Core.ctx_callf, Core.ctx_io, Core.ctx_turns, Core.finish, Core.handBack, Core.outPs, Core.entry, Core.bindT, Core.bindTs, Core.wipe, Core.back, Core.walkItems, Core.bound, Core.boolsOf, cf14, b14, f9 k h hs, f11 (k + 3) h.In h.2.1 hs]
/-- the law's own reaching gives the same -/
theorem f20l (k : Nat) {ms : Mv} (h : MovesOk ms) (hn : ms.length ≤ 7) {s : Nat} (hs : s < ms.length) : callK P (k + 1) 20 [.v (encM ms), .v (.int (s : Int))] = .ok (encN (lot ms s)) false [.v (encM ms), .v (.int (s : Int))] := by
  obtain ⟨zs, h1, h2, h3, h4⟩ := f20 k h hn hs
  rw [h1, lot_eq h.In hs h2 h3 h4, encN_toI]
end C65
end Core
end

section
set_option linter.all false
set_option autoImplicit false
set_option maxRecDepth 100000
set_option maxHeartbeats 4000000
namespace Core
open PySem PySem.W
/-! ### sets of tuples -/
theorem tupsOf_map : ∀ (l : List (List Int)), tupsOf (l.map encT) = some l
  | [] => rfl
  | x :: l => by
    show (match intsOf (x.map PyData.int), tupsOf (l.map encT) with
      | some ns, some nss => some (ns :: nss)
      | _, _ => none) = _
    rw [tupsOf_map l]
    have : intsOf (x.map PyData.int) = some x := by
      induction x with
      | nil => rfl
      | cons i x ih =>
        show (intsOf (x.map PyData.int)).map (i :: ·) = _
        rw [ih]; rfl
    rw [this]
def lexL (a b : List Int) : Bool := decide (a < b)
theorem sset_tups (l : List (List Int)) (h : l.length < 64) (hn : ∀ x ∈ l, x ≠ []) : sset (l.map encT) = some (.list ((ssetL lexL l).map encT)) := by
  cases l with
  | nil => rfl
  | cons x l =>
    unfold sset
    have h1 : intsOf ((x :: l).map encT) = none := rfl
    rw [h1]
    dsimp only
    rw [tupsOf_map]
    dsimp only
    rw [if_pos]
    · rfl
    · rw [Bool.and_eq_true, decide_eq_true_iff, List.all_eq_true]
      refine ⟨h, fun y hy => ?_⟩
      have := hn y hy
      cases y with
      | nil => exact absurd rfl this
      | cons _ _ => rfl
theorem insL_mem (x y : List Int) : ∀ (l : List (List Int)), y ∈ insS lexL x l ↔ y = x ∨ y ∈ l
  | [] => by simp [insS]
  | z :: l => by
    unfold insS
    by_cases h1 : x < z
    · rw [if_pos (show lexL x z = true from decide_eq_true h1)]; simp
    · rw [if_neg (by unfold lexL; simpa using h1)]
      by_cases h2 : z < x
      · rw [if_pos (show lexL z x = true from decide_eq_true h2), List.mem_cons, insL_mem x y l, List.mem_cons]
        constructor
        · rintro (h | h | h)
          · exact .inr (.inl h)
          · exact .inl h
          · exact .inr (.inr h)
        · rintro (h | h | h)
          · exact .inr (.inl h)
          · exact .inl h
          · exact .inr (.inr h)
      · rw [if_neg (by unfold lexL; simpa using h2)]
        have : x = z := List.le_antisymm h2 h1
        subst this
        simp
theorem ssetL_mem (y : List Int) : ∀ (l : List (List Int)), y ∈ ssetL lexL l ↔ y ∈ l
  | [] => Iff.rfl
  | x :: l => by
    show y ∈ insS lexL x (ssetL lexL l) ↔ _
    rw [insL_mem, ssetL_mem y l, List.mem_cons]
theorem insL_len (x : List Int) : ∀ (l : List (List Int)), (insS lexL x l).length ≤ l.length + 1
  | [] => by simp [insS]
  | z :: l => by
    have ih := insL_len x l
    unfold insS
    split
    · simp
    · split
      · simp only [List.length_cons]; omega
      · simp
theorem ssetL_len : ∀ (l : List (List Int)), (ssetL lexL l).length ≤ l.length
  | [] => Nat.le_refl _
  | x :: l => by
    have h1 := ssetL_len l
    have h2 := insL_len x (ssetL lexL l)
    show (insS lexL x (ssetL lexL l)).length ≤ _
    rw [List.length_cons]; omega
namespace C65
open B
theorem toI_inj {a b : List Nat} (h : toI a = toI b) : a = b := map_inj (fun _ _ e => by omega) h
theorem encN_T (l : List Nat) : encN l = encT (toI l) := encN_toI l
theorem alike_T (a b : List Int) : alike (encT a) (encT b) = true := by
  unfold encT
  rw [alike]
  exact alike_ints a b
theorem eqv_ints : ∀ (a b : List Int), PyData.eqvAll (a.map PyData.int) (b.map PyData.int) = decide (a = b)
  | [], [] => by simp [PyData.eqvAll]
  | [], _ :: _ => by simp [PyData.eqvAll]
  | _ :: _, [] => by simp [PyData.eqvAll]
  | x :: a, y :: b => by
    rw [List.map_cons, List.map_cons, eqv_all_cons, eqv_ints a b]
    have : PyData.eqv (.int x) (.int y) = decide (x = y) := by
      rw [Bool.eq_iff_iff]
      simp [PyData.eqv]
    rw [this, Bool.eq_iff_iff]
    simp
theorem eqv_T (a b : List Int) : PyData.eqv (encT a) (encT b) = decide (a = b) := by
  unfold encT
  rw [PyData.eqv]
  exact eqv_ints a b
theorem dep_T (a : List Int) : dep (encT a) ≤ 1 := by
  have := dep_ints a
  unfold encT
  simp only [dep] at this ⊢
  omega
theorem okT (a : List Int) : okD (encT a) = true := okD_of (Nat.le_trans (dep_T a) (by omega))
theorem dep_TT (l : List (List Int)) : dep (.tuple (l.map encT)) ≤ 2 ∧ dep (.list (l.map encT)) ≤ 2 := by
  have := depAll_le (n := 1) (xs := l.map encT) fun x hx => by
    obtain ⟨p, _, rfl⟩ := List.mem_map.mp hx
    exact dep_T p
  simp only [dep]
  omega
theorem okTT (l : List (List Int)) : okD (.tuple (l.map encT)) = true := okD_of (by have := (dep_TT l).1; omega)
theorem okTL (l : List (List Int)) : okD (.list (l.map encT)) = true := okD_of (by have := (dep_TT l).2; omega)
theorem eqv_TT : ∀ (a b : List (List Int)), PyData.eqvAll (a.map encT) (b.map encT) = decide (a = b)
  | [], [] => by simp [PyData.eqvAll]
  | [], _ :: _ => by simp [PyData.eqvAll]
  | _ :: _, [] => by simp [PyData.eqvAll]
  | x :: a, y :: b => by
    rw [List.map_cons, List.map_cons, eqv_all_cons, eqv_TT a b, eqv_T, Bool.eq_iff_iff]
    simp
theorem pyEq_TT (a b : List (List Int)) : pyEq (.tuple (a.map encT)) (.tuple (b.map encT)) = some (decide (a = b)) := by
  unfold pyEq
  rw [okTT, okTT, PyData.eqv, eqv_TT]; rfl
theorem pyEq_TL (a b : List (List Int)) : pyEq (.list (a.map encT)) (.list (b.map encT)) = some (decide (a = b)) := by
  unfold pyEq
  rw [okTL, okTL, PyData.eqv, eqv_TT]; rfl
theorem pyEq_T (a b : List Int) : pyEq (encT a) (encT b) = some (decide (a = b)) := by
  unfold pyEq
  rw [okT, okT, eqv_T]; rfl
theorem inL_T (x : List Int) (l : List (List Int)) : inL (encT x) (l.map encT) = l.contains x := by
  rw [Bool.eq_iff_iff, List.contains_iff_mem]
  unfold inL
  rw [List.any_map, List.any_eq_true]
  refine ⟨fun ⟨y, h1, h2⟩ => ?_, fun h => ⟨x, h, by show PyData.eqv (encT x) (encT x) = true; rw [eqv_T]; simp⟩⟩
  have h3 : PyData.eqv (encT y) (encT x) = true := h2
  rw [eqv_T, decide_eq_true_iff] at h3
  exact h3 ▸ h1
/-! ### traps -/
noncomputable def lots (ms : Mv) : List (List Int) := (List.range ms.length).map fun s => toI (lot ms s)
/-- the lot of x, as it stands in the list -/
noncomputable def lotI (ms : Mv) (i : Int) : List Int := toI (lot ms i.toNat)
noncomputable def trapB (ms : Mv) (l : List Int) : Bool := l.all fun i => decide (lotI ms i = l)
noncomputable def trapsL (ms : Mv) : List (List Int) := ssetL lexL ((lots ms).filter (trapB ms))
theorem lots_len (ms : Mv) : (lots ms).length = ms.length := by unfold lots; simp
theorem lots_at {ms : Mv} {s : Nat} (hs : s < ms.length) : atI ((lots ms).map encT) (s : Int) = some (encT (toI (lot ms s))) := by
  unfold atI ixN
  rw [List.length_map, lots_len, if_pos (by omega), if_pos (by omega)]
  show ((lots ms).map encT)[((s : Int)).toNat]? = _
  have : ((s : Int)).toNat = s := by omega
  rw [this, List.getElem?_map]
  unfold lots
  rw [List.getElem?_map, List.getElem?_range hs]
  rfl
theorem lot_self {ms : Mv} {s : Nat} (hs : s < ms.length) : s ∈ lot ms s := by
  unfold lot
  rw [List.mem_filter, List.mem_range, rchB_iff]
  exact ⟨hs, .zero⟩
theorem lot_mem_lt {ms : Mv} {s x : Nat} (h : x ∈ lot ms s) : x < ms.length := by
  unfold lot at h
  exact List.mem_range.mp (List.mem_filter.mp h).1
theorem lots_ne {ms : Mv} : ∀ l ∈ lots ms, l ≠ [] := fun l hl e => by
  obtain ⟨s, hs, rfl⟩ := List.mem_map.mp hl
  have : (s : Int) ∈ toI (lot ms s) := mem_toI.mpr (lot_self (List.mem_range.mp hs))
  rw [e] at this
  cases this
theorem f12 (k : Nat) {ms : Mv} (hi : In ms) (hn : ms.length ≤ 7) : callK P (k + 3) 12 [.v (encM ms)] = .ok (.tuple ((trapsL ms).map encT)) false [.v (encM ms)] := by
  rw [callK_eq (cf := cf12) rfl rfl]
  have q0 : evE (P.ctx (callK P (k + 2))) q12_0 [.v (encM ms), .no, .no, .no] = .ok (.n (.list ((lots ms).map encT))) [.v (encM ms), .no, .no, .no] := by
    refine lc_map (fun d => match d with | .int i => encT (lotI ms i) | _ => .none) (xs := intsN (List.range ms.length)) (env1 := [.v (encM ms), .no, .no, .no]) ?_ (fun x hx => ?_) ?_ rfl
    · have h1 : (-16000000 : Int) ≤ ms.length := by omega
      have h2 : (ms.length : Int) ≤ 16000000 := by omega
      have e : encM ms = .tuple (ms.map encR) := rfl
      have e2 : rngD 0 ms.length = intsN (List.range ms.length) := by
        unfold rngD intsN
        apply List.map_congr_left
        intro i _
        rw [Int.zero_add]
      rw [e, ← e2]
      simp [-List.map_map, Core.pyEq_int, Core.pyLt_int, Core.evSs, Core.evS.eq_1, Core.evS.eq_2, Core.evS.eq_3, Core.evS.eq_4, Core.evS.eq_5, Core.evS.eq_6, Core.evS.eq_7, Core.evS.eq_10, Core.evS.eq_11, Core.evS.eq_12, Core.evS.eq_13, Core.evS.eq_14, Core.evS.eq_15, Core.evE.eq_1, Core.evE.eq_2, Core.evE.eq_3, Core.evE.eq_4, Core.evE.eq_5, Core.evE.eq_6, Core.evE.eq_7, Core.evE.eq_8, Core.evE.eq_9, Core.evE.eq_10, Core.evE.eq_11, Core.evE.eq_12, Core.evE.eq_13, Core.evE.eq_14, Core.evE.eq_15, Core.evE.eq_16, Core.evEs, Core.evRs, Core.evC, Core.evI, Core.evT, Core.evV, Core.evHolds, Core.setAll, Core.Out.bind, Core.Out.ofO, Core.hold, Core.frz, Core.peek, Core.mk, Core.isLst, Core.isB, Core.do1, Core.do2, Core.doSl, Core.partD, Core.dupFree, Core.bors, Core.isOwn, Core.passArgs, Core.backArgs, Core.ctx_callf, Core.ctx_io, Core.ctx_turns, Core.finish, Core.handBack, Core.outPs, Core.entry, Core.bindT, Core.bindTs, Core.wipe, Core.back, Core.walkItems, Core.bound, Core.boolsOf, h1, h2]
    · obtain ⟨j, hj, rfl⟩ := List.mem_map.mp hx
      have hj := List.mem_range.mp hj
      refine ⟨[.v (encM ms), .no, .v (.int (j : Int)), .no], rfl, ?_, rfl⟩
      have h11 := f11 k hi (by omega) hj
      rw [encN_T] at h11
      have e : lotI ms (j : Int) = toI (lot ms j) := by unfold lotI; simp
      simp [-List.map_map, Core.pyEq_int, Core.pyLt_int, Core.evSs, Core.evS.eq_1, Core.evS.eq_2, Core.evS.eq_3, Core.evS.eq_4, Core.evS.eq_5, Core.evS.eq_6, Core.evS.eq_7, Core.evS.eq_10, Core.evS.eq_11, Core.evS.eq_12, Core.evS.eq_13, Core.evS.eq_14, Core.evS.eq_15, Core.evE.eq_1, Core.evE.eq_2, Core.evE.eq_3, Core.evE.eq_4, Core.evE.eq_5, Core.evE.eq_6, Core.evE.eq_7, Core.evE.eq_8, Core.evE.eq_9, Core.evE.eq_10, Core.evE.eq_11, Core.evE.eq_12, Core.evE.eq_13, Core.evE.eq_14, Core.evE.eq_15, Core.evE.eq_16, Core.evEs, Core.evRs, Core.evC, Core.evI, Core.evT, Core.evV, Core.evHolds, Core.setAll, Core.Out.bind, Core.Out.ofO, Core.hold, Core.frz, Core.peek, Core.mk, Core.isLst, Core.isB, Core.do1, Core.do2, Core.doSl, Core.partD, Core.dupFree, Core.bors, Core.isOwn, Core.passArgs, Core.backArgs, Core.ctx_callf, Core.ctx_io, Core.ctx_turns, Core.finish, Core.handBack, Core.outPs, Core.entry, Core.bindT, Core.bindTs, Core.wipe, Core.back, Core.walkItems, Core.bound, Core.boolsOf, h11, e]
    · unfold lots intsN
      rw [List.map_map, List.map_map]
      apply List.map_congr_left
      intro i _
      show encT (lotI ms (i : Int)) = encT (toI (lot ms i))
      unfold lotI
      simp
  have q1 : ∀ s, s < ms.length → evE (P.ctx (callK P (k + 2))) q12_1 [.v (encM ms), .v (.list ((lots ms).map encT)), .no, .v (encT (toI (lot ms s)))] = .ok (.n (.list (((toI (lot ms s)).map fun i => decide (lotI ms i = toI (lot ms s))).map PyData.bool))) [.v (encM ms), .v (.list ((lots ms).map encT)), .no, .v (encT (toI (lot ms s)))] := fun s hs => by
    refine lc_map (fun d => match d with | .int i => .bool (decide (lotI ms i = toI (lot ms s))) | _ => .none) (xs := (toI (lot ms s)).map PyData.int) (env1 := [.v (encM ms), .v (.list ((lots ms).map encT)), .no, .v (encT (toI (lot ms s)))]) ?_ (fun x hx => ?_) (by rw [List.map_map, List.map_map]; rfl) rfl
    · simp [-List.map_map, Core.pyEq_int, Core.pyLt_int, Core.evSs, Core.evS.eq_1, Core.evS.eq_2, Core.evS.eq_3, Core.evS.eq_4, Core.evS.eq_5, Core.evS.eq_6, Core.evS.eq_7, Core.evS.eq_10, Core.evS.eq_11, Core.evS.eq_12, Core.evS.eq_13, Core.evS.eq_14, Core.evS.eq_15, Core.evE.eq_1, Core.evE.eq_2, Core.evE.eq_3, Core.evE.eq_4, Core.evE.eq_5, Core.evE.eq_6, Core.evE.eq_7, Core.evE.eq_8, Core.evE.eq_9, Core.evE.eq_10, Core.evE.eq_11, Core.evE.eq_12, Core.evE.eq_13, Core.evE.eq_14, Core.evE.eq_15, Core.evE.eq_16, Core.evEs, Core.evRs, Core.evC, Core.evI, Core.evT, Core.evV, Core.evHolds, Core.setAll, Core.Out.bind, Core.Out.ofO, Core.hold, Core.frz, Core.peek, Core.mk, Core.isLst, Core.isB, Core.do1, Core.do2, Core.doSl, Core.partD, Core.dupFree, Core.bors, Core.isOwn, Core.passArgs, Core.backArgs, Core.ctx_callf, Core.ctx_io, Core.ctx_turns, Core.finish, Core.handBack, Core.outPs, Core.entry, Core.bindT, Core.bindTs, Core.wipe, Core.back, Core.walkItems, Core.bound, Core.boolsOf, encT]
    · obtain ⟨i, hi2, rfl⟩ := List.mem_map.mp hx
      obtain ⟨j, hj, rfl⟩ := List.mem_map.mp hi2
      have hjl := lot_mem_lt hj
      have ha := lots_at hjl
      have e : lotI ms (j : Int) = toI (lot ms j) := by unfold lotI; simp
      refine ⟨[.v (encM ms), .v (.list ((lots ms).map encT)), .v (.int (j : Int)), .v (encT (toI (lot ms s)))], rfl, ?_, rfl⟩
      simp [-List.map_map, Core.pyEq_int, Core.pyLt_int, Core.evSs, Core.evS.eq_1, Core.evS.eq_2, Core.evS.eq_3, Core.evS.eq_4, Core.evS.eq_5, Core.evS.eq_6, Core.evS.eq_7, Core.evS.eq_10, Core.evS.eq_11, Core.evS.eq_12, Core.evS.eq_13, Core.evS.eq_14, Core.evS.eq_15, Core.evE.eq_1, Core.evE.eq_2, Core.evE.eq_3, Core.evE.eq_4, Core.evE.eq_5, Core.evE.eq_6, Core.evE.eq_7, Core.evE.eq_8, Core.evE.eq_9, Core.evE.eq_10, Core.evE.eq_11, Core.evE.eq_12, Core.evE.eq_13, Core.evE.eq_14, Core.evE.eq_15, Core.evE.eq_16, Core.evEs, Core.evRs, Core.evC, Core.evI, Core.evT, Core.evV, Core.evHolds, Core.setAll, Core.Out.bind, Core.Out.ofO, Core.hold, Core.frz, Core.peek, Core.mk, Core.isLst, Core.isB, Core.do1, Core.do2, Core.doSl, Core.partD, Core.dupFree, Core.bors, Core.isOwn, Core.passArgs, Core.backArgs, Core.ctx_callf, Core.ctx_io, Core.ctx_turns, Core.finish, Core.handBack, Core.outPs, Core.entry, Core.bindT, Core.bindTs, Core.wipe, Core.back, Core.walkItems, Core.bound, Core.boolsOf, ha, pyEq_T, e]
  have q2 : evE (P.ctx (callK P (k + 2))) q12_2 [.v (encM ms), .o ((lots ms).map encT), .no, .no] = .ok (.n (.list (((lots ms).filter (trapB ms)).map encT))) [.v (encM ms), .v (.list ((lots ms).map encT)), .no, .no] := by
    refine lc_pure (fun d => match d with | .tuple xs => (match intsOf xs with | some ns => trapB ms ns | none => false) | _ => false) id (xs := (lots ms).map encT) (env1 := [.v (encM ms), .v (.list ((lots ms).map encT)), .no, .no]) ?_ (fun x hx => ?_) ?_ rfl
    · simp [-List.map_map, Core.pyEq_int, Core.pyLt_int, Core.evSs, Core.evS.eq_1, Core.evS.eq_2, Core.evS.eq_3, Core.evS.eq_4, Core.evS.eq_5, Core.evS.eq_6, Core.evS.eq_7, Core.evS.eq_10, Core.evS.eq_11, Core.evS.eq_12, Core.evS.eq_13, Core.evS.eq_14, Core.evS.eq_15, Core.evE.eq_1, Core.evE.eq_2, Core.evE.eq_3, Core.evE.eq_4, Core.evE.eq_5, Core.evE.eq_6, Core.evE.eq_7, Core.evE.eq_8, Core.evE.eq_9, Core.evE.eq_10, Core.evE.eq_11, Core.evE.eq_12, Core.evE.eq_13, Core.evE.eq_14, Core.evE.eq_15, Core.evE.eq_16, Core.evEs, Core.evRs, Core.evC, Core.evI, Core.evT, Core.evV, Core.evHolds, Core.setAll, Core.Out.bind, Core.Out.ofO, Core.hold, Core.frz, Core.peek, Core.mk, Core.isLst, Core.isB, Core.do1, Core.do2, Core.doSl, Core.partD, Core.dupFree, Core.bors, Core.isOwn, Core.passArgs, Core.backArgs, Core.ctx_callf, Core.ctx_io, Core.ctx_turns, Core.finish, Core.handBack, Core.outPs, Core.entry, Core.bindT, Core.bindTs, Core.wipe, Core.back, Core.walkItems, Core.bound, Core.boolsOf]
    · obtain ⟨l, hl, rfl⟩ := List.mem_map.mp hx
      obtain ⟨s, hs, rfl⟩ := List.mem_map.mp hl
      have hs := List.mem_range.mp hs
      refine ⟨[.v (encM ms), .v (.list ((lots ms).map encT)), .no, .v (encT (toI (lot ms s)))], rfl, ?_, fun _ => ?_, rfl⟩
      · have hq := q1 s hs
        have ht : trapB ms (toI (lot ms s)) = ((toI (lot ms s)).map fun i => decide (lotI ms i = toI (lot ms s))).all id := by
          rw [List.all_map]; rfl
        have e : (match encT (toI (lot ms s)) with | .tuple xs => (match intsOf xs with | some ns => trapB ms ns | none => false) | _ => false) = trapB ms (toI (lot ms s)) := by
          show (match intsOf ((toI (lot ms s)).map PyData.int) with | some ns => trapB ms ns | none => false) = _
          rw [intsOf_map]
        rw [e, ht]
        generalize ((toI (lot ms s)).map fun i => decide (lotI ms i = toI (lot ms s))) = bs at hq
        simp [-List.map_map, Core.pyEq_int, Core.pyLt_int, Core.evSs, Core.evS.eq_1, Core.evS.eq_2, Core.evS.eq_3, Core.evS.eq_4, Core.evS.eq_5, Core.evS.eq_6, Core.evS.eq_7, Core.evS.eq_10, Core.evS.eq_11, Core.evS.eq_12, Core.evS.eq_13, Core.evS.eq_14, Core.evS.eq_15, Core.evE.eq_1, Core.evE.eq_2, Core.evE.eq_3, Core.evE.eq_4, Core.evE.eq_5, Core.evE.eq_6, Core.evE.eq_7, Core.evE.eq_8, Core.evE.eq_9, Core.evE.eq_10, Core.evE.eq_11, Core.evE.eq_12, Core.evE.eq_13, Core.evE.eq_14, Core.evE.eq_15, Core.evE.eq_16, Core.evEs, Core.evRs, Core.evC, Core.evI, Core.evT, Core.evV, Core.evHolds, Core.setAll, Core.Out.bind, Core.Out.ofO, Core.hold, Core.frz, Core.peek, Core.mk, Core.isLst, Core.isB, Core.do1, Core.do2, Core.doSl, Core.partD, Core.dupFree, Core.bors, Core.isOwn, Core.passArgs, Core.backArgs, Core.ctx_callf, Core.ctx_io, Core.ctx_turns, Core.finish, Core.handBack, Core.outPs, Core.entry, Core.bindT, Core.bindTs, Core.wipe, Core.back, Core.walkItems, Core.bound, Core.boolsOf, hq, bools_map]
        cases bs.all id <;> simp
      · simp [-List.map_map, Core.pyEq_int, Core.pyLt_int, Core.evSs, Core.evS.eq_1, Core.evS.eq_2, Core.evS.eq_3, Core.evS.eq_4, Core.evS.eq_5, Core.evS.eq_6, Core.evS.eq_7, Core.evS.eq_10, Core.evS.eq_11, Core.evS.eq_12, Core.evS.eq_13, Core.evS.eq_14, Core.evS.eq_15, Core.evE.eq_1, Core.evE.eq_2, Core.evE.eq_3, Core.evE.eq_4, Core.evE.eq_5, Core.evE.eq_6, Core.evE.eq_7, Core.evE.eq_8, Core.evE.eq_9, Core.evE.eq_10, Core.evE.eq_11, Core.evE.eq_12, Core.evE.eq_13, Core.evE.eq_14, Core.evE.eq_15, Core.evE.eq_16, Core.evEs, Core.evRs, Core.evC, Core.evI, Core.evT, Core.evV, Core.evHolds, Core.setAll, Core.Out.bind, Core.Out.ofO, Core.hold, Core.frz, Core.peek, Core.mk, Core.isLst, Core.isB, Core.do1, Core.do2, Core.doSl, Core.partD, Core.dupFree, Core.bors, Core.isOwn, Core.passArgs, Core.backArgs, Core.ctx_callf, Core.ctx_io, Core.ctx_turns, Core.finish, Core.handBack, Core.outPs, Core.entry, Core.bindT, Core.bindTs, Core.wipe, Core.back, Core.walkItems, Core.bound, Core.boolsOf]
    · rw [List.map_id, List.filter_map]
      congr 1
      apply List.filter_congr
      intro l _
      show (match intsOf (l.map PyData.int) with | some ns => trapB ms ns | none => false) = _
      rw [intsOf_map]
  have hs := sset_tups ((lots ms).filter (trapB ms)) (by
    have := List.length_filter_le (trapB ms) (lots ms)
    rw [lots_len] at this
    omega) (fun x hx => lots_ne x (List.mem_filter.mp hx).1)
  have hs' : sset (((lots ms).filter (trapB ms)).map encT) = some (.list ((trapsL ms).map encT)) := hs
  simp [-List.map_map, Core.pyEq_int, Core.pyLt_int, Core.evSs, Core.evS.eq_1, Core.evS.eq_2, Core.evS.eq_3, Core.evS.eq_4, Core.evS.eq_5, Core.evS.eq_6, Core.evS.eq_7, Core.evS.eq_10, Core.evS.eq_11, Core.evS.eq_12, Core.evS.eq_13, Core.evS.eq_14, Core.evS.eq_15, Core.evE.eq_1, Core.evE.eq_2, Core.evE.eq_3, Core.evE.eq_4, Core.evE.eq_5, Core.evE.eq_6, Core.evE.eq_7, Core.evE.eq_8, Core.evE.eq_9, Core.evE.eq_10, Core.evE.eq_11, Core.evE.eq_12, Core.evE.eq_13, Core.evE.eq_14, Core.evE.eq_15, Core.evE.eq_16, Core.evEs, Core.evRs, Core.evC, Core.evI, Core.evT, Core.evV, Core.evHolds, Core.setAll, Core.Out.bind, Core.Out.ofO, Core.hold, Core.frz, Core.peek, Core.mk, Core.isLst, Core.isB, Core.do1, Core.do2, Core.doSl, Core.partD, Core.dupFree, Core.bors, Core.isOwn, Core.passArgs, Core.backArgs, Core.ctx_callf, Core.ctx_io, Core.ctx_turns, Core.finish, Core.handBack, Core.outPs, Core.entry, Core.bindT, Core.bindTs, Core.wipe, Core.back, Core.walkItems, Core.bound, Core.boolsOf, cf12, b12, q0, q2, hs']
theorem f13 (k : Nat) {ms : Mv} (h : MovesOk ms) (hn : ms.length ≤ 7) : callK P (k + 5) 13 [.v (encM ms)] = .ok (.tuple ((trapsL ms).map encT)) false [.v (encM ms)] := by
  rw [callK_eq (cf := cf13) rfl rfl]
  simp [-List.map_map, Core.pyEq_int, Core.pyLt_int, Core.evSs, Core.evS.eq_1, Core.evS.eq_2, Core.evS.eq_3, Core.evS.eq_4, Core.evS.eq_5, Core.evS.eq_6, Core.evS.eq_7, Core.evS.eq_10, Core.evS.eq_11, Core.evS.eq_12, Core.evS.eq_13, Core.evS.eq_14, Core.evS.eq_15, Core.evE.eq_1, Core.evE.eq_2, Core.evE.eq_3, Core.evE.eq_4, Core.evE.eq_5, Core.evE.eq_6, Core.evE.eq_7, Core.evE.eq_8, Core.evE.eq_9, Core.evE.eq_10, Core.evE.eq_11, Core.evE.eq_12, Core.evE.eq_13, Core.evE.eq_14, Core.evE.eq_15, Core.evE.eq_16, Core.evEs, Core.evRs, Core.evC, Core.evI, Core.evT, Core.evV, Core.evHolds, Core.setAll, Core.Out.bind, Core.Out.ofO, Core.hold, Core.frz, Core.peek, Core.mk, Core.isLst, Core.isB, Core.do1, Core.do2, Core.doSl, Core.partD, Core.dupFree, Core.bors, Core.isOwn, Core.passArgs, Core.backArgs, Core.ctx_callf, Core.ctx_io, Core.ctx_turns, Core.finish, Core.handBack, Core.outPs, Core.entry, Core.bindT, Core.bindTs, Core.wipe, Core.back, Core.walkItems, Core.bound, Core.boolsOf, cf13, b13, f8 k h, f12 (k + 1) h.In hn]
/-- is_sure -/
noncomputable def sureB (ms : Mv) : Bool := match trapsL ms with
  | [l] => decide (l.length = 1)
  | _ => false
theorem f15 (k : Nat) {ms : Mv} (h : MovesOk ms) (hn : ms.length ≤ 7) : callK P (k + 5) 15 [.v (encM ms)] = .ok (.bool (sureB ms)) false [.v (encM ms)] := by
  rw [callK_eq (cf := cf15) rfl rfl]
  have h12 := f12 (k + 1) h.In hn
  unfold sureB
  generalize trapsL ms = tl at h12
  match tl, h12 with
  | [], h12 => simp [-List.map_map, Core.pyEq_int, Core.pyLt_int, Core.evSs, Core.evS.eq_1, Core.evS.eq_2, Core.evS.eq_3, Core.evS.eq_4, Core.evS.eq_5, Core.evS.eq_6, Core.evS.eq_7, Core.evS.eq_10, Core.evS.eq_11, Core.evS.eq_12, Core.evS.eq_13, Core.evS.eq_14, Core.evS.eq_15, Core.evE.eq_1, Core.evE.eq_2, Core.evE.eq_3, Core.evE.eq_4, Core.evE.eq_5, Core.evE.eq_6, Core.evE.eq_7, Core.evE.eq_8, Core.evE.eq_9, Core.evE.eq_10, Core.evE.eq_11, Core.evE.eq_12, Core.evE.eq_13, Core.evE.eq_14, Core.evE.eq_15, Core.evE.eq_16, Core.evEs, Core.evRs, Core.evC, Core.evI, Core.evT, Core.evV, Core.evHolds, Core.setAll, Core.Out.bind, Core.Out.ofO, Core.hold, Core.frz, Core.peek, Core.mk, Core.isLst, Core.isB, Core.do1, Core.do2, Core.doSl, Core.partD, Core.dupFree, Core.bors, Core.isOwn, Core.passArgs, Core.backArgs, Core.ctx_callf, Core.ctx_io, Core.ctx_turns, Core.finish, Core.handBack, Core.outPs, Core.entry, Core.bindT, Core.bindTs, Core.wipe, Core.back, Core.walkItems, Core.bound, Core.boolsOf, cf15, b15, f8 k h, h12]
  | [l], h12 =>
    simp [-List.map_map, Core.pyEq_int, Core.pyLt_int, Core.evSs, Core.evS.eq_1, Core.evS.eq_2, Core.evS.eq_3, Core.evS.eq_4, Core.evS.eq_5, Core.evS.eq_6, Core.evS.eq_7, Core.evS.eq_10, Core.evS.eq_11, Core.evS.eq_12, Core.evS.eq_13, Core.evS.eq_14, Core.evS.eq_15, Core.evE.eq_1, Core.evE.eq_2, Core.evE.eq_3, Core.evE.eq_4, Core.evE.eq_5, Core.evE.eq_6, Core.evE.eq_7, Core.evE.eq_8, Core.evE.eq_9, Core.evE.eq_10, Core.evE.eq_11, Core.evE.eq_12, Core.evE.eq_13, Core.evE.eq_14, Core.evE.eq_15, Core.evE.eq_16, Core.evEs, Core.evRs, Core.evC, Core.evI, Core.evT, Core.evV, Core.evHolds, Core.setAll, Core.Out.bind, Core.Out.ofO, Core.hold, Core.frz, Core.peek, Core.mk, Core.isLst, Core.isB, Core.do1, Core.do2, Core.doSl, Core.partD, Core.dupFree, Core.bors, Core.isOwn, Core.passArgs, Core.backArgs, Core.ctx_callf, Core.ctx_io, Core.ctx_turns, Core.finish, Core.handBack, Core.outPs, Core.entry, Core.bindT, Core.bindTs, Core.wipe, Core.back, Core.walkItems, Core.bound, Core.boolsOf, cf15, b15, f8 k h, h12, atI, ixN, encT]
    by_cases hl : l.length = 1
    · simp [hl]
    · have : ¬ ((l.length : Int) = 1) := by omega
      simp [hl, this]
  | l :: l' :: r, h12 =>
    have : ¬ ((r.length : Int) + 1 + 1 = 1) := by omega
    simp [-List.map_map, Core.pyEq_int, Core.pyLt_int, Core.evSs, Core.evS.eq_1, Core.evS.eq_2, Core.evS.eq_3, Core.evS.eq_4, Core.evS.eq_5, Core.evS.eq_6, Core.evS.eq_7, Core.evS.eq_10, Core.evS.eq_11, Core.evS.eq_12, Core.evS.eq_13, Core.evS.eq_14, Core.evS.eq_15, Core.evE.eq_1, Core.evE.eq_2, Core.evE.eq_3, Core.evE.eq_4, Core.evE.eq_5, Core.evE.eq_6, Core.evE.eq_7, Core.evE.eq_8, Core.evE.eq_9, Core.evE.eq_10, Core.evE.eq_11, Core.evE.eq_12, Core.evE.eq_13, Core.evE.eq_14, Core.evE.eq_15, Core.evE.eq_16, Core.evEs, Core.evRs, Core.evC, Core.evI, Core.evT, Core.evV, Core.evHolds, Core.setAll, Core.Out.bind, Core.Out.ofO, Core.hold, Core.frz, Core.peek, Core.mk, Core.isLst, Core.isB, Core.do1, Core.do2, Core.doSl, Core.partD, Core.dupFree, Core.bors, Core.isOwn, Core.passArgs, Core.backArgs, Core.ctx_callf, Core.ctx_io, Core.ctx_turns, Core.finish, Core.handBack, Core.outPs, Core.entry, Core.bindT, Core.bindTs, Core.wipe, Core.back, Core.walkItems, Core.bound, Core.boolsOf, cf15, b15, f8 k h, h12, this]
end C65
end Core
end

section
set_option linter.all false
set_option autoImplicit false
set_option maxRecDepth 100000
set_option maxHeartbeats 4000000
namespace Core
open PySem PySem.W
namespace C65
open B
theorem rests_range : ∀ (ms : Mv) (i : Nat), restsFrom i ms = ((List.range ms.length).filter fun j => decide (row ms j = [])).map (· + i)
  | [], i => rfl
  | r :: ms, i => by
    rw [List.length_cons, List.range_succ_eq_map, restsFrom, rests_range ms (i + 1), List.filter_cons, List.filter_map]
    have e : (fun j => decide (row (r :: ms) j = [])) ∘ Nat.succ = fun j => decide (row ms j = []) := by
      funext j
      show decide (row (r :: ms) (j + 1) = []) = _
      unfold B.row
      rw [List.getElem?_cons_succ]
    rw [e]
    have e0 : row (r :: ms) 0 = r := rfl
    have e1 : ∀ l : List Nat, (l.map Nat.succ).map (· + i) = l.map (· + (i + 1)) := fun l => by
      rw [List.map_map]
      apply List.map_congr_left
      intro j _
      show j + 1 + i = j + (i + 1)
      omega
    by_cases h : r = []
    · rw [if_pos h, if_pos (by rw [e0]; exact decide_eq_true h), List.map_cons, e1, Nat.zero_add]
    · rw [if_neg h, if_neg (by rw [e0]; simpa using h), e1]
theorem rests_mem {ms : Mv} {x : Nat} (h : x ∈ restsFrom 0 ms) : x < ms.length ∧ row ms x = [] := by
  rw [rests_range] at h
  simp only [Nat.add_zero, List.map_id'] at h
  obtain ⟨h1, h2⟩ := List.mem_filter.mp h
  exact ⟨List.mem_range.mp h1, of_decide_eq_true h2⟩
/-! ### what is known of traps -/
theorem mem_lots {ms : Mv} {s : Nat} (hs : s < ms.length) : toI (lot ms s) ∈ lots ms := List.mem_map.mpr ⟨s, List.mem_range.mpr hs, rfl⟩
theorem trap_iff {ms : Mv} {s : Nat} : trapB ms (toI (lot ms s)) = true ↔ ∀ x ∈ lot ms s, lot ms x = lot ms s := by
  unfold trapB
  rw [List.all_eq_true]
  refine ⟨fun h x hx => ?_, fun h i hi => ?_⟩
  · have := of_decide_eq_true (h (x : Int) (mem_toI.mpr hx))
    have e : lotI ms (x : Int) = toI (lot ms x) := by unfold lotI; simp
    rw [e] at this
    exact toI_inj this
  · obtain ⟨x, hx, rfl⟩ := List.mem_map.mp hi
    have e : lotI ms (x : Int) = toI (lot ms x) := by unfold lotI; simp
    rw [e, h x hx]
    exact decide_eq_true rfl
theorem mem_traps {ms : Mv} {l : List Int} : l ∈ trapsL ms ↔ ∃ s, s < ms.length ∧ l = toI (lot ms s) ∧ ∀ x ∈ lot ms s, lot ms x = lot ms s := by
  unfold trapsL
  rw [ssetL_mem, List.mem_filter]
  refine ⟨fun ⟨h1, h2⟩ => ?_, fun ⟨s, h1, h2, h3⟩ => ?_⟩
  · obtain ⟨s, hs, rfl⟩ := List.mem_map.mp h1
    exact ⟨s, List.mem_range.mp hs, rfl, trap_iff.mp h2⟩
  · rw [h2]
    exact ⟨mem_lots h1, trap_iff.mpr h3⟩
theorem Rch.trans {ms : Mv} {a b c : Nat} (h : Rch ms a b) (k : Rch ms b c) : Rch ms a c := by
  induction k with
  | zero => exact h
  | go _ hp ih => exact .go ih hp
/-- from each state a trap is reached -/
theorem trap_reached {ms : Mv} (hi : In ms) : ∀ (n s : Nat), s < ms.length → (lot ms s).length ≤ n → ∃ x, x ∈ lot ms s ∧ ∀ y ∈ lot ms x, lot ms y = lot ms x
  | 0, s, hs, h => by
    have := lot_self hs
    rw [List.length_eq_zero_iff.mp (Nat.le_zero.mp h)] at this
    cases this
  | n + 1, s, hs, h => by
    by_cases hc : ∀ y ∈ lot ms s, lot ms y = lot ms s
    · exact ⟨s, lot_self hs, hc⟩
    · have : ∃ y, y ∈ lot ms s ∧ lot ms y ≠ lot ms s := by
        apply Classical.byContradiction
        intro hno
        refine hc fun y hy => ?_
        apply Classical.byContradiction
        intro hne
        exact hno ⟨y, hy, hne⟩
      obtain ⟨y, hy, hne⟩ := this
      have hyl := lot_mem_lt hy
      have hsy := (mem_lot hi hs).mp hy
      have hsub : ∀ z ∈ lot ms y, z ∈ lot ms s := fun z hz => (mem_lot hi hs).mpr (hsy.trans ((mem_lot hi hyl).mp hz))
      have hnd : (lot ms y).Nodup := by
        unfold lot
        exact List.Nodup.sublist List.filter_sublist List.nodup_range
      have hex : ∃ z, z ∈ lot ms s ∧ z ∉ lot ms y := by
        apply Classical.byContradiction
        intro hno
        apply hne
        unfold lot
        apply List.filter_congr
        intro z hz
        have hz := List.mem_range.mp hz
        rw [Bool.eq_iff_iff, rchB_iff, rchB_iff, ← mem_lot hi hyl, ← mem_lot hi hs]
        refine ⟨fun h => hsub z h, fun h => ?_⟩
        apply Classical.byContradiction
        intro hh
        exact hno ⟨z, h, hh⟩
      obtain ⟨z, z1, z2⟩ := hex
      have := sub_len (z :: lot ms y) (lot ms s) (List.nodup_cons.mpr ⟨z2, hnd⟩) fun w hw => by
        rcases List.mem_cons.mp hw with rfl | hw
        · exact z1
        · exact hsub w hw
      rw [List.length_cons] at this
      obtain ⟨x, x1, x2⟩ := trap_reached hi n y hyl (by omega)
      exact ⟨x, hsub x x1, x2⟩
theorem trap_ahead {ms : Mv} (hi : In ms) {s : Nat} (hs : s < ms.length) : ∃ (i : Int) (r : List Int), (i :: r) ∈ trapsL ms ∧ i ∈ toI (lot ms s) := by
  obtain ⟨x, x1, x2⟩ := trap_reached hi _ s hs (Nat.le_refl _)
  have hx := lot_mem_lt x1
  have hm : toI (lot ms x) ∈ trapsL ms := mem_traps.mpr ⟨x, hx, rfl, x2⟩
  cases e : lot ms x with
  | nil =>
    have := lot_self hx
    rw [e] at this
    cases this
  | cons y r =>
    have e2 : toI (lot ms x) = (y : Int) :: toI r := by rw [e]; rfl
    rw [e2] at hm
    refine ⟨y, toI r, hm, mem_toI.mpr ((mem_lot hi hs).mpr (((mem_lot hi hs).mp x1).trans ((mem_lot hi hx).mp ?_)))⟩
    rw [e]
    exact List.mem_cons_self
theorem lot_rest {ms : Mv} (hi : In ms) {x : Nat} (hx : x < ms.length) (hr : row ms x = []) : toI (lot ms x) = [(x : Int)] := by
  symm
  refine lot_eq hi hx rfl (fun y hy => ⟨x, List.mem_singleton.mp hy⟩) fun z => ?_
  rw [List.mem_singleton]
  refine ⟨fun h => ?_, fun r => ?_⟩
  · have : z = x := by omega
    subst this
    exact .zero
  · have : ∀ w, Rch ms x w → w = x := fun w r => by
      induction r with
      | zero => rfl
      | go _ hp ih =>
        rw [ih, hr] at hp
        cases hp
    rw [this z r]
theorem rest_trap {ms : Mv} (hi : In ms) {x : Nat} (h : x ∈ restsFrom 0 ms) : [(x : Int)] ∈ trapsL ms := by
  obtain ⟨hx, hr⟩ := rests_mem h
  have e := lot_rest hi hx hr
  rw [← e]
  refine mem_traps.mpr ⟨x, hx, rfl, fun y hy => ?_⟩
  have : (y : Int) ∈ toI (lot ms x) := mem_toI.mpr hy
  rw [e, List.mem_singleton] at this
  have : y = x := by omega
  rw [this]
/-- the traps that hold h -/
noncomputable def nowL (ms : Mv) (h : Nat) : List (List Int) := (trapsL ms).filter fun T => T.contains (h : Int)
theorem nowL_eq {ms : Mv} {h : Nat} (hh : h < ms.length) : nowL ms h = (trapsL ms).filter fun T => decide (T = toI (lot ms h)) := by
  unfold nowL
  apply List.filter_congr
  intro T hT
  obtain ⟨s, hs, rfl, h3⟩ := mem_traps.mp hT
  rw [Bool.eq_iff_iff, List.contains_iff_mem, mem_toI, decide_eq_true_iff]
  exact ⟨fun hm => by rw [h3 h hm], fun e => by rw [toI_inj e]; exact lot_self hh⟩
theorem nowL_step {ms : Mv} (hi : In ms) {h : Nat} (hh : h < ms.length) (hn : nowL ms h ≠ []) {p : Nat × Nat} (hp : p ∈ row ms h) : nowL ms p.2 = nowL ms h := by
  have hl := hi h p hp
  rw [nowL_eq hh] at hn ⊢
  rw [nowL_eq hl]
  obtain ⟨T, hT⟩ := List.exists_mem_of_ne_nil _ hn
  obtain ⟨h1, h2⟩ := List.mem_filter.mp hT
  have h2 := of_decide_eq_true h2
  obtain ⟨s, hs, e, h3⟩ := mem_traps.mp h1
  rw [e] at h2
  have h2 := toI_inj h2
  have hm : p.2 ∈ lot ms h := (mem_lot hi hh).mpr (.go .zero hp)
  rw [← h2] at hm
  rw [h3 p.2 hm, h2]
end C65
end Core
end

section
set_option linter.all false
set_option autoImplicit false
set_option maxRecDepth 100000
set_option maxHeartbeats 4000000
namespace Core
open PySem PySem.W
namespace C65
open B
abbrev C8 : Ctx := P.ctx (callK P 8)
theorem filt_no (xs : List D) : (xs.filter fun _ => false).map id = [] := by
  rw [List.filter_eq_nil_iff.mpr (fun _ _ => Bool.false_ne_true)]
  rfl
theorem rng_nat (n : Nat) : rngD 0 n = intsN (List.range n) := by
  unfold rngD intsN
  apply List.map_congr_left
  intro i _
  rw [Int.zero_add]
theorem lotI_nat (ms : Mv) (j : Nat) : lotI ms (j : Int) = toI (lot ms j) := by unfold lotI; simp
section
variable (ms : Mv) (h : MovesOk ms) (hn : ms.length ≤ 7) (s0 s1 s2 s3 s4 s5 s6 s7 s8 s9 s10 s11 s12 s13 s14 s15 s16 s17 s18 : Sl)
include h hn
theorem lq0 : evE C8 q22_0 [s0, s1, s2, .v (encM ms), .o (intsN (List.range ms.length)), s5, .no, s7, s8, s9, s10, s11, s12, s13, s14, s15, s16, s17, s18] = .ok (.n (.list ((lots ms).map encT))) [s0, s1, s2, .v (encM ms), .v (.list (intsN (List.range ms.length))), s5, .no, s7, s8, s9, s10, s11, s12, s13, s14, s15, s16, s17, s18] := by
  refine lc_map (fun d => match d with | .int i => encT (lotI ms i) | _ => .none) (xs := intsN (List.range ms.length)) (env1 := [s0, s1, s2, .v (encM ms), .v (.list (intsN (List.range ms.length))), s5, .no, s7, s8, s9, s10, s11, s12, s13, s14, s15, s16, s17, s18]) ?_ (fun x hx => ?_) ?_ rfl
  · simp [-List.map_map, Core.pyEq_int, Core.pyLt_int, Core.evSs, Core.evS.eq_1, Core.evS.eq_2, Core.evS.eq_3, Core.evS.eq_4, Core.evS.eq_5, Core.evS.eq_6, Core.evS.eq_7, Core.evS.eq_10, Core.evS.eq_11, Core.evS.eq_12, Core.evS.eq_13, Core.evS.eq_14, Core.evS.eq_15, Core.evE.eq_1, Core.evE.eq_2, Core.evE.eq_3, Core.evE.eq_4, Core.evE.eq_5, Core.evE.eq_6, Core.evE.eq_7, Core.evE.eq_8, Core.evE.eq_9, Core.evE.eq_10, Core.evE.eq_11, Core.evE.eq_12, Core.evE.eq_13, Core.evE.eq_14, Core.evE.eq_15, Core.evE.eq_16, Core.evEs, Core.evRs, Core.evC, Core.evI, Core.evT, Core.evV, Core.evHolds, Core.setAll, Core.Out.bind, Core.Out.ofO, Core.hold, Core.frz, Core.peek, Core.mk, Core.isLst, Core.isB, Core.do1, Core.do2, Core.doSl, Core.partD, Core.dupFree, Core.bors, Core.isOwn, Core.passArgs, Core.backArgs, Core.ctx_callf, Core.ctx_io, Core.ctx_turns, Core.finish, Core.handBack, Core.outPs, Core.entry, Core.bindT, Core.bindTs, Core.wipe, Core.back, Core.walkItems, Core.bound, Core.boolsOf]
  · obtain ⟨j, hj, rfl⟩ := List.mem_map.mp hx
    have hj := List.mem_range.mp hj
    refine ⟨[s0, s1, s2, .v (encM ms), .v (.list (intsN (List.range ms.length))), s5, .v (.int (j : Int)), s7, s8, s9, s10, s11, s12, s13, s14, s15, s16, s17, s18], rfl, ?_, rfl⟩
    have hf : callK P 8 20 [.v (encM ms), .v (.int (j : Int))] = .ok (encN (lot ms j)) false [.v (encM ms), .v (.int (j : Int))] := f20l 7 h hn hj
    rw [encN_T] at hf
    simp [-List.map_map, Core.pyEq_int, Core.pyLt_int, Core.evSs, Core.evS.eq_1, Core.evS.eq_2, Core.evS.eq_3, Core.evS.eq_4, Core.evS.eq_5, Core.evS.eq_6, Core.evS.eq_7, Core.evS.eq_10, Core.evS.eq_11, Core.evS.eq_12, Core.evS.eq_13, Core.evS.eq_14, Core.evS.eq_15, Core.evE.eq_1, Core.evE.eq_2, Core.evE.eq_3, Core.evE.eq_4, Core.evE.eq_5, Core.evE.eq_6, Core.evE.eq_7, Core.evE.eq_8, Core.evE.eq_9, Core.evE.eq_10, Core.evE.eq_11, Core.evE.eq_12, Core.evE.eq_13, Core.evE.eq_14, Core.evE.eq_15, Core.evE.eq_16, Core.evEs, Core.evRs, Core.evC, Core.evI, Core.evT, Core.evV, Core.evHolds, Core.setAll, Core.Out.bind, Core.Out.ofO, Core.hold, Core.frz, Core.peek, Core.mk, Core.isLst, Core.isB, Core.do1, Core.do2, Core.doSl, Core.partD, Core.dupFree, Core.bors, Core.isOwn, Core.passArgs, Core.backArgs, Core.ctx_callf, Core.ctx_io, Core.ctx_turns, Core.finish, Core.handBack, Core.outPs, Core.entry, Core.bindT, Core.bindTs, Core.wipe, Core.back, Core.walkItems, Core.bound, Core.boolsOf, hf, lotI_nat]
  · unfold lots intsN
    rw [List.map_map, List.map_map]
    apply List.map_congr_left
    intro i _
    show encT (lotI ms (i : Int)) = encT (toI (lot ms i))
    rw [lotI_nat]
theorem lq2 : evE C8 q22_2 [s0, s1, s2, s3, s4, .o ((lots ms).map encT), .no, s7, .no, s9, s10, s11, s12, s13, s14, s15, s16, s17, s18] = .ok (.n (.list (((lots ms).filter (trapB ms)).map encT))) [s0, s1, s2, s3, s4, .v (.list ((lots ms).map encT)), .no, s7, .no, s9, s10, s11, s12, s13, s14, s15, s16, s17, s18] := by
  have q1 : ∀ s, s < ms.length → evE C8 q22_1 [s0, s1, s2, s3, s4, .v (.list ((lots ms).map encT)), .no, s7, .v (encT (toI (lot ms s))), s9, s10, s11, s12, s13, s14, s15, s16, s17, s18] = .ok (.n (.list (((toI (lot ms s)).filter fun i => !decide (lotI ms i = toI (lot ms s))).map fun _ => .int 1))) [s0, s1, s2, s3, s4, .v (.list ((lots ms).map encT)), .no, s7, .v (encT (toI (lot ms s))), s9, s10, s11, s12, s13, s14, s15, s16, s17, s18] := fun s hs => by
    refine lc_pure (fun d => match d with | .int i => !decide (lotI ms i = toI (lot ms s)) | _ => false) (fun _ => .int 1) (xs := (toI (lot ms s)).map PyData.int) (env1 := [s0, s1, s2, s3, s4, .v (.list ((lots ms).map encT)), .no, s7, .v (encT (toI (lot ms s))), s9, s10, s11, s12, s13, s14, s15, s16, s17, s18]) ?_ (fun x hx => ?_) ?_ rfl
    · simp [-List.map_map, Core.pyEq_int, Core.pyLt_int, Core.evSs, Core.evS.eq_1, Core.evS.eq_2, Core.evS.eq_3, Core.evS.eq_4, Core.evS.eq_5, Core.evS.eq_6, Core.evS.eq_7, Core.evS.eq_10, Core.evS.eq_11, Core.evS.eq_12, Core.evS.eq_13, Core.evS.eq_14, Core.evS.eq_15, Core.evE.eq_1, Core.evE.eq_2, Core.evE.eq_3, Core.evE.eq_4, Core.evE.eq_5, Core.evE.eq_6, Core.evE.eq_7, Core.evE.eq_8, Core.evE.eq_9, Core.evE.eq_10, Core.evE.eq_11, Core.evE.eq_12, Core.evE.eq_13, Core.evE.eq_14, Core.evE.eq_15, Core.evE.eq_16, Core.evEs, Core.evRs, Core.evC, Core.evI, Core.evT, Core.evV, Core.evHolds, Core.setAll, Core.Out.bind, Core.Out.ofO, Core.hold, Core.frz, Core.peek, Core.mk, Core.isLst, Core.isB, Core.do1, Core.do2, Core.doSl, Core.partD, Core.dupFree, Core.bors, Core.isOwn, Core.passArgs, Core.backArgs, Core.ctx_callf, Core.ctx_io, Core.ctx_turns, Core.finish, Core.handBack, Core.outPs, Core.entry, Core.bindT, Core.bindTs, Core.wipe, Core.back, Core.walkItems, Core.bound, Core.boolsOf, encT]
    · obtain ⟨i, hi2, rfl⟩ := List.mem_map.mp hx
      obtain ⟨j, hj, rfl⟩ := List.mem_map.mp hi2
      have ha := lots_at (lot_mem_lt hj)
      refine ⟨[s0, s1, s2, s3, s4, .v (.list ((lots ms).map encT)), .v (.int (j : Int)), s7, .v (encT (toI (lot ms s))), s9, s10, s11, s12, s13, s14, s15, s16, s17, s18], rfl, ?_, fun _ => ?_, rfl⟩
      · simp [-List.map_map, Core.pyEq_int, Core.pyLt_int, Core.evSs, Core.evS.eq_1, Core.evS.eq_2, Core.evS.eq_3, Core.evS.eq_4, Core.evS.eq_5, Core.evS.eq_6, Core.evS.eq_7, Core.evS.eq_10, Core.evS.eq_11, Core.evS.eq_12, Core.evS.eq_13, Core.evS.eq_14, Core.evS.eq_15, Core.evE.eq_1, Core.evE.eq_2, Core.evE.eq_3, Core.evE.eq_4, Core.evE.eq_5, Core.evE.eq_6, Core.evE.eq_7, Core.evE.eq_8, Core.evE.eq_9, Core.evE.eq_10, Core.evE.eq_11, Core.evE.eq_12, Core.evE.eq_13, Core.evE.eq_14, Core.evE.eq_15, Core.evE.eq_16, Core.evEs, Core.evRs, Core.evC, Core.evI, Core.evT, Core.evV, Core.evHolds, Core.setAll, Core.Out.bind, Core.Out.ofO, Core.hold, Core.frz, Core.peek, Core.mk, Core.isLst, Core.isB, Core.do1, Core.do2, Core.doSl, Core.partD, Core.dupFree, Core.bors, Core.isOwn, Core.passArgs, Core.backArgs, Core.ctx_callf, Core.ctx_io, Core.ctx_turns, Core.finish, Core.handBack, Core.outPs, Core.entry, Core.bindT, Core.bindTs, Core.wipe, Core.back, Core.walkItems, Core.bound, Core.boolsOf, ha, pyEq_T, lotI_nat]
        by_cases hq : toI (lot ms j) = toI (lot ms s) <;> simp [hq]
      · simp [-List.map_map, Core.pyEq_int, Core.pyLt_int, Core.evSs, Core.evS.eq_1, Core.evS.eq_2, Core.evS.eq_3, Core.evS.eq_4, Core.evS.eq_5, Core.evS.eq_6, Core.evS.eq_7, Core.evS.eq_10, Core.evS.eq_11, Core.evS.eq_12, Core.evS.eq_13, Core.evS.eq_14, Core.evS.eq_15, Core.evE.eq_1, Core.evE.eq_2, Core.evE.eq_3, Core.evE.eq_4, Core.evE.eq_5, Core.evE.eq_6, Core.evE.eq_7, Core.evE.eq_8, Core.evE.eq_9, Core.evE.eq_10, Core.evE.eq_11, Core.evE.eq_12, Core.evE.eq_13, Core.evE.eq_14, Core.evE.eq_15, Core.evE.eq_16, Core.evEs, Core.evRs, Core.evC, Core.evI, Core.evT, Core.evV, Core.evHolds, Core.setAll, Core.Out.bind, Core.Out.ofO, Core.hold, Core.frz, Core.peek, Core.mk, Core.isLst, Core.isB, Core.do1, Core.do2, Core.doSl, Core.partD, Core.dupFree, Core.bors, Core.isOwn, Core.passArgs, Core.backArgs, Core.ctx_callf, Core.ctx_io, Core.ctx_turns, Core.finish, Core.handBack, Core.outPs, Core.entry, Core.bindT, Core.bindTs, Core.wipe, Core.back, Core.walkItems, Core.bound, Core.boolsOf]
    · rw [List.filter_map, List.map_map]
      rfl
  refine lc_pure (fun d => match d with | .tuple xs => (match intsOf xs with | some ns => trapB ms ns | none => false) | _ => false) id (xs := (lots ms).map encT) (env1 := [s0, s1, s2, s3, s4, .v (.list ((lots ms).map encT)), .no, s7, .no, s9, s10, s11, s12, s13, s14, s15, s16, s17, s18]) ?_ (fun x hx => ?_) ?_ rfl
  · simp [-List.map_map, Core.pyEq_int, Core.pyLt_int, Core.evSs, Core.evS.eq_1, Core.evS.eq_2, Core.evS.eq_3, Core.evS.eq_4, Core.evS.eq_5, Core.evS.eq_6, Core.evS.eq_7, Core.evS.eq_10, Core.evS.eq_11, Core.evS.eq_12, Core.evS.eq_13, Core.evS.eq_14, Core.evS.eq_15, Core.evE.eq_1, Core.evE.eq_2, Core.evE.eq_3, Core.evE.eq_4, Core.evE.eq_5, Core.evE.eq_6, Core.evE.eq_7, Core.evE.eq_8, Core.evE.eq_9, Core.evE.eq_10, Core.evE.eq_11, Core.evE.eq_12, Core.evE.eq_13, Core.evE.eq_14, Core.evE.eq_15, Core.evE.eq_16, Core.evEs, Core.evRs, Core.evC, Core.evI, Core.evT, Core.evV, Core.evHolds, Core.setAll, Core.Out.bind, Core.Out.ofO, Core.hold, Core.frz, Core.peek, Core.mk, Core.isLst, Core.isB, Core.do1, Core.do2, Core.doSl, Core.partD, Core.dupFree, Core.bors, Core.isOwn, Core.passArgs, Core.backArgs, Core.ctx_callf, Core.ctx_io, Core.ctx_turns, Core.finish, Core.handBack, Core.outPs, Core.entry, Core.bindT, Core.bindTs, Core.wipe, Core.back, Core.walkItems, Core.bound, Core.boolsOf]
  · obtain ⟨l, hl, rfl⟩ := List.mem_map.mp hx
    obtain ⟨s, hs, rfl⟩ := List.mem_map.mp hl
    have hs := List.mem_range.mp hs
    refine ⟨[s0, s1, s2, s3, s4, .v (.list ((lots ms).map encT)), .no, s7, .v (encT (toI (lot ms s))), s9, s10, s11, s12, s13, s14, s15, s16, s17, s18], rfl, ?_, fun _ => ?_, rfl⟩
    · have hq := q1 s hs
      have e : (match encT (toI (lot ms s)) with | .tuple xs => (match intsOf xs with | some ns => trapB ms ns | none => false) | _ => false) = trapB ms (toI (lot ms s)) := by
        show (match intsOf ((toI (lot ms s)).map PyData.int) with | some ns => trapB ms ns | none => false) = _
        rw [intsOf_map]
      have ht : ((toI (lot ms s)).filter fun i => !decide (lotI ms i = toI (lot ms s))).isEmpty = trapB ms (toI (lot ms s)) := by
        rw [Bool.eq_iff_iff, List.isEmpty_iff, List.filter_eq_nil_iff]
        unfold trapB
        rw [List.all_eq_true]
        exact ⟨fun hh i hi => by simpa using hh i hi, fun hh i hi => by simpa using hh i hi⟩
      have hp : ∀ l : List Int, pyEq (.list (l.map fun _ => PyData.int 1)) (.list []) = some l.isEmpty := fun l => by
        have e1 : (l.map fun _ => PyData.int 1) = intsN (l.map fun _ => 1) := by
          unfold intsN; rw [List.map_map]; rfl
        rw [e1, pyEq_nilL]
        cases l <;> rfl
      rw [e, ← ht]
      generalize ((toI (lot ms s)).filter fun i => !decide (lotI ms i = toI (lot ms s))) = bs at hq
      have hp := hp bs
      generalize (bs.map fun _ => PyData.int 1) = cs at hq hp
      simp [-List.map_map, Core.pyEq_int, Core.pyLt_int, Core.evSs, Core.evS.eq_1, Core.evS.eq_2, Core.evS.eq_3, Core.evS.eq_4, Core.evS.eq_5, Core.evS.eq_6, Core.evS.eq_7, Core.evS.eq_10, Core.evS.eq_11, Core.evS.eq_12, Core.evS.eq_13, Core.evS.eq_14, Core.evS.eq_15, Core.evE.eq_1, Core.evE.eq_2, Core.evE.eq_3, Core.evE.eq_4, Core.evE.eq_5, Core.evE.eq_6, Core.evE.eq_7, Core.evE.eq_8, Core.evE.eq_9, Core.evE.eq_10, Core.evE.eq_11, Core.evE.eq_12, Core.evE.eq_13, Core.evE.eq_14, Core.evE.eq_15, Core.evE.eq_16, Core.evEs, Core.evRs, Core.evC, Core.evI, Core.evT, Core.evV, Core.evHolds, Core.setAll, Core.Out.bind, Core.Out.ofO, Core.hold, Core.frz, Core.peek, Core.mk, Core.isLst, Core.isB, Core.do1, Core.do2, Core.doSl, Core.partD, Core.dupFree, Core.bors, Core.isOwn, Core.passArgs, Core.backArgs, Core.ctx_callf, Core.ctx_io, Core.ctx_turns, Core.finish, Core.handBack, Core.outPs, Core.entry, Core.bindT, Core.bindTs, Core.wipe, Core.back, Core.walkItems, Core.bound, Core.boolsOf, hq, hp]
      cases bs <;> simp
    · simp [-List.map_map, Core.pyEq_int, Core.pyLt_int, Core.evSs, Core.evS.eq_1, Core.evS.eq_2, Core.evS.eq_3, Core.evS.eq_4, Core.evS.eq_5, Core.evS.eq_6, Core.evS.eq_7, Core.evS.eq_10, Core.evS.eq_11, Core.evS.eq_12, Core.evS.eq_13, Core.evS.eq_14, Core.evS.eq_15, Core.evE.eq_1, Core.evE.eq_2, Core.evE.eq_3, Core.evE.eq_4, Core.evE.eq_5, Core.evE.eq_6, Core.evE.eq_7, Core.evE.eq_8, Core.evE.eq_9, Core.evE.eq_10, Core.evE.eq_11, Core.evE.eq_12, Core.evE.eq_13, Core.evE.eq_14, Core.evE.eq_15, Core.evE.eq_16, Core.evEs, Core.evRs, Core.evC, Core.evI, Core.evT, Core.evV, Core.evHolds, Core.setAll, Core.Out.bind, Core.Out.ofO, Core.hold, Core.frz, Core.peek, Core.mk, Core.isLst, Core.isB, Core.do1, Core.do2, Core.doSl, Core.partD, Core.dupFree, Core.bors, Core.isOwn, Core.passArgs, Core.backArgs, Core.ctx_callf, Core.ctx_io, Core.ctx_turns, Core.finish, Core.handBack, Core.outPs, Core.entry, Core.bindT, Core.bindTs, Core.wipe, Core.back, Core.walkItems, Core.bound, Core.boolsOf]
  · rw [List.map_id, List.filter_map]
    congr 1
    apply List.filter_congr
    intro l _
    show (match intsOf (l.map PyData.int) with | some ns => trapB ms ns | none => false) = _
    rw [intsOf_map]
theorem lq3 : evE C8 q22_3 [s0, s1, s2, .v (encM ms), .v (.list (intsN (List.range ms.length))), .v (.list ((lots ms).map encT)), .no, s7, s8, s9, s10, s11, s12, s13, s14, s15, s16, s17, s18] = .ok (.n (.list [])) [s0, s1, s2, .v (encM ms), .v (.list (intsN (List.range ms.length))), .v (.list ((lots ms).map encT)), .no, s7, s8, s9, s10, s11, s12, s13, s14, s15, s16, s17, s18] := by
  refine lc_pure (fun _ => false) id (xs := intsN (List.range ms.length)) (env1 := [s0, s1, s2, .v (encM ms), .v (.list (intsN (List.range ms.length))), .v (.list ((lots ms).map encT)), .no, s7, s8, s9, s10, s11, s12, s13, s14, s15, s16, s17, s18]) ?_ (fun x hx => ?_) (filt_no _) rfl
  · simp [-List.map_map, Core.pyEq_int, Core.pyLt_int, Core.evSs, Core.evS.eq_1, Core.evS.eq_2, Core.evS.eq_3, Core.evS.eq_4, Core.evS.eq_5, Core.evS.eq_6, Core.evS.eq_7, Core.evS.eq_10, Core.evS.eq_11, Core.evS.eq_12, Core.evS.eq_13, Core.evS.eq_14, Core.evS.eq_15, Core.evE.eq_1, Core.evE.eq_2, Core.evE.eq_3, Core.evE.eq_4, Core.evE.eq_5, Core.evE.eq_6, Core.evE.eq_7, Core.evE.eq_8, Core.evE.eq_9, Core.evE.eq_10, Core.evE.eq_11, Core.evE.eq_12, Core.evE.eq_13, Core.evE.eq_14, Core.evE.eq_15, Core.evE.eq_16, Core.evEs, Core.evRs, Core.evC, Core.evI, Core.evT, Core.evV, Core.evHolds, Core.setAll, Core.Out.bind, Core.Out.ofO, Core.hold, Core.frz, Core.peek, Core.mk, Core.isLst, Core.isB, Core.do1, Core.do2, Core.doSl, Core.partD, Core.dupFree, Core.bors, Core.isOwn, Core.passArgs, Core.backArgs, Core.ctx_callf, Core.ctx_io, Core.ctx_turns, Core.finish, Core.handBack, Core.outPs, Core.entry, Core.bindT, Core.bindTs, Core.wipe, Core.back, Core.walkItems, Core.bound, Core.boolsOf]
  · obtain ⟨j, hj, rfl⟩ := List.mem_map.mp hx
    have hj := List.mem_range.mp hj
    have ha := lots_at hj
    have hf : callK P 8 14 [.v (encM ms), .v (.int (j : Int))] = .ok (encN (lot ms j)) false [.v (encM ms), .v (.int (j : Int))] := f14 2 h hj
    rw [encN_T] at hf
    refine ⟨[s0, s1, s2, .v (encM ms), .v (.list (intsN (List.range ms.length))), .v (.list ((lots ms).map encT)), .v (.int (j : Int)), s7, s8, s9, s10, s11, s12, s13, s14, s15, s16, s17, s18], rfl, ?_, (fun e => by cases e), rfl⟩
    simp [-List.map_map, Core.pyEq_int, Core.pyLt_int, Core.evSs, Core.evS.eq_1, Core.evS.eq_2, Core.evS.eq_3, Core.evS.eq_4, Core.evS.eq_5, Core.evS.eq_6, Core.evS.eq_7, Core.evS.eq_10, Core.evS.eq_11, Core.evS.eq_12, Core.evS.eq_13, Core.evS.eq_14, Core.evS.eq_15, Core.evE.eq_1, Core.evE.eq_2, Core.evE.eq_3, Core.evE.eq_4, Core.evE.eq_5, Core.evE.eq_6, Core.evE.eq_7, Core.evE.eq_8, Core.evE.eq_9, Core.evE.eq_10, Core.evE.eq_11, Core.evE.eq_12, Core.evE.eq_13, Core.evE.eq_14, Core.evE.eq_15, Core.evE.eq_16, Core.evEs, Core.evRs, Core.evC, Core.evI, Core.evT, Core.evV, Core.evHolds, Core.setAll, Core.Out.bind, Core.Out.ofO, Core.hold, Core.frz, Core.peek, Core.mk, Core.isLst, Core.isB, Core.do1, Core.do2, Core.doSl, Core.partD, Core.dupFree, Core.bors, Core.isOwn, Core.passArgs, Core.backArgs, Core.ctx_callf, Core.ctx_io, Core.ctx_turns, Core.finish, Core.handBack, Core.outPs, Core.entry, Core.bindT, Core.bindTs, Core.wipe, Core.back, Core.walkItems, Core.bound, Core.boolsOf, hf, ha, pyEq_T]
theorem lq5 : evE C8 q22_5 [s0, s1, s2, .v (encM ms), .v (.list (intsN (List.range ms.length))), .v (.list ((lots ms).map encT)), .no, s7, s8, .no, s10, s11, s12, s13, s14, s15, s16, s17, s18] = .ok (.n (.list [])) [s0, s1, s2, .v (encM ms), .v (.list (intsN (List.range ms.length))), .v (.list ((lots ms).map encT)), .no, s7, s8, .no, s10, s11, s12, s13, s14, s15, s16, s17, s18] := by
  refine lc_pure (fun _ => false) id (xs := intsN (List.range ms.length)) (env1 := [s0, s1, s2, .v (encM ms), .v (.list (intsN (List.range ms.length))), .v (.list ((lots ms).map encT)), .no, s7, s8, .no, s10, s11, s12, s13, s14, s15, s16, s17, s18]) ?_ (fun x hx => ?_) (filt_no _) rfl
  · simp [-List.map_map, Core.pyEq_int, Core.pyLt_int, Core.evSs, Core.evS.eq_1, Core.evS.eq_2, Core.evS.eq_3, Core.evS.eq_4, Core.evS.eq_5, Core.evS.eq_6, Core.evS.eq_7, Core.evS.eq_10, Core.evS.eq_11, Core.evS.eq_12, Core.evS.eq_13, Core.evS.eq_14, Core.evS.eq_15, Core.evE.eq_1, Core.evE.eq_2, Core.evE.eq_3, Core.evE.eq_4, Core.evE.eq_5, Core.evE.eq_6, Core.evE.eq_7, Core.evE.eq_8, Core.evE.eq_9, Core.evE.eq_10, Core.evE.eq_11, Core.evE.eq_12, Core.evE.eq_13, Core.evE.eq_14, Core.evE.eq_15, Core.evE.eq_16, Core.evEs, Core.evRs, Core.evC, Core.evI, Core.evT, Core.evV, Core.evHolds, Core.setAll, Core.Out.bind, Core.Out.ofO, Core.hold, Core.frz, Core.peek, Core.mk, Core.isLst, Core.isB, Core.do1, Core.do2, Core.doSl, Core.partD, Core.dupFree, Core.bors, Core.isOwn, Core.passArgs, Core.backArgs, Core.ctx_callf, Core.ctx_io, Core.ctx_turns, Core.finish, Core.handBack, Core.outPs, Core.entry, Core.bindT, Core.bindTs, Core.wipe, Core.back, Core.walkItems, Core.bound, Core.boolsOf]
  · obtain ⟨j, hj, rfl⟩ := List.mem_map.mp hx
    have hj := List.mem_range.mp hj
    have ha := lots_at hj
    have hf : callK P 8 13 [.v (encM ms)] = .ok (.tuple ((trapsL ms).map encT)) false [.v (encM ms)] := f13 3 h hn
    have q4 : evE C8 q22_4 [s0, s1, s2, .v (encM ms), .v (.list (intsN (List.range ms.length))), .v (.list ((lots ms).map encT)), .v (.int (j : Int)), s7, s8, .no, s10, s11, s12, s13, s14, s15, s16, s17, s18] = .ok (.n (.list (((trapsL ms).filter fun T => match T with | i :: _ => (toI (lot ms j)).contains i | [] => false).map fun _ => .int 1))) [s0, s1, s2, .v (encM ms), .v (.list (intsN (List.range ms.length))), .v (.list ((lots ms).map encT)), .v (.int (j : Int)), s7, s8, .no, s10, s11, s12, s13, s14, s15, s16, s17, s18] := by
      refine lc_pure (fun d => match d with | .tuple (.int i :: _) => (toI (lot ms j)).contains i | _ => false) (fun _ => .int 1) (xs := (trapsL ms).map encT) (env1 := [s0, s1, s2, .v (encM ms), .v (.list (intsN (List.range ms.length))), .v (.list ((lots ms).map encT)), .v (.int (j : Int)), s7, s8, .no, s10, s11, s12, s13, s14, s15, s16, s17, s18]) ?_ (fun y hy => ?_) ?_ rfl
      · simp [-List.map_map, Core.pyEq_int, Core.pyLt_int, Core.evSs, Core.evS.eq_1, Core.evS.eq_2, Core.evS.eq_3, Core.evS.eq_4, Core.evS.eq_5, Core.evS.eq_6, Core.evS.eq_7, Core.evS.eq_10, Core.evS.eq_11, Core.evS.eq_12, Core.evS.eq_13, Core.evS.eq_14, Core.evS.eq_15, Core.evE.eq_1, Core.evE.eq_2, Core.evE.eq_3, Core.evE.eq_4, Core.evE.eq_5, Core.evE.eq_6, Core.evE.eq_7, Core.evE.eq_8, Core.evE.eq_9, Core.evE.eq_10, Core.evE.eq_11, Core.evE.eq_12, Core.evE.eq_13, Core.evE.eq_14, Core.evE.eq_15, Core.evE.eq_16, Core.evEs, Core.evRs, Core.evC, Core.evI, Core.evT, Core.evV, Core.evHolds, Core.setAll, Core.Out.bind, Core.Out.ofO, Core.hold, Core.frz, Core.peek, Core.mk, Core.isLst, Core.isB, Core.do1, Core.do2, Core.doSl, Core.partD, Core.dupFree, Core.bors, Core.isOwn, Core.passArgs, Core.backArgs, Core.ctx_callf, Core.ctx_io, Core.ctx_turns, Core.finish, Core.handBack, Core.outPs, Core.entry, Core.bindT, Core.bindTs, Core.wipe, Core.back, Core.walkItems, Core.bound, Core.boolsOf, hf]
      · obtain ⟨T, hT, rfl⟩ := List.mem_map.mp hy
        obtain ⟨s, hs, e, _⟩ := mem_traps.mp hT
        have hne : T ≠ [] := by
          rw [e]
          exact lots_ne _ (mem_lots hs)
        cases T with
        | nil => exact absurd rfl hne
        | cons i r =>
          refine ⟨[s0, s1, s2, .v (encM ms), .v (.list (intsN (List.range ms.length))), .v (.list ((lots ms).map encT)), .v (.int (j : Int)), s7, s8, .v (encT (i :: r)), s10, s11, s12, s13, s14, s15, s16, s17, s18], rfl, ?_, fun _ => ?_, rfl⟩
          · have hx0 : atI ((i :: r).map PyData.int) 0 = some (.int i) := by
              have : (0 : Int) < (r.length : Int) + 1 := by omega
              simp [atI, ixN, this]
            have hin : inL (.int i) ((toI (lot ms j)).map PyData.int) = (toI (lot ms j)).contains i := inL_z i _
            have hok : okD (.tuple ((toI (lot ms j)).map PyData.int)) = true := okT (toI (lot ms j))
            have e1 : encT (i :: r) = .tuple ((i :: r).map PyData.int) := rfl
            have e2 : encT (toI (lot ms j)) = .tuple ((toI (lot ms j)).map PyData.int) := rfl
            have e3 : (match encT (i :: r) with | .tuple (.int i :: _) => (toI (lot ms j)).contains i | _ => false) = (toI (lot ms j)).contains i := rfl
            rw [e3]
            rw [e2] at ha
            rw [e1]
            generalize (i :: r).map PyData.int = rr at *
            generalize (toI (lot ms j)).map PyData.int = jj at *
            simp [-List.map_map, Core.pyEq_int, Core.pyLt_int, Core.evSs, Core.evS.eq_1, Core.evS.eq_2, Core.evS.eq_3, Core.evS.eq_4, Core.evS.eq_5, Core.evS.eq_6, Core.evS.eq_7, Core.evS.eq_10, Core.evS.eq_11, Core.evS.eq_12, Core.evS.eq_13, Core.evS.eq_14, Core.evS.eq_15, Core.evE.eq_1, Core.evE.eq_2, Core.evE.eq_3, Core.evE.eq_4, Core.evE.eq_5, Core.evE.eq_6, Core.evE.eq_7, Core.evE.eq_8, Core.evE.eq_9, Core.evE.eq_10, Core.evE.eq_11, Core.evE.eq_12, Core.evE.eq_13, Core.evE.eq_14, Core.evE.eq_15, Core.evE.eq_16, Core.evEs, Core.evRs, Core.evC, Core.evI, Core.evT, Core.evV, Core.evHolds, Core.setAll, Core.Out.bind, Core.Out.ofO, Core.hold, Core.frz, Core.peek, Core.mk, Core.isLst, Core.isB, Core.do1, Core.do2, Core.doSl, Core.partD, Core.dupFree, Core.bors, Core.isOwn, Core.passArgs, Core.backArgs, Core.ctx_callf, Core.ctx_io, Core.ctx_turns, Core.finish, Core.handBack, Core.outPs, Core.entry, Core.bindT, Core.bindTs, Core.wipe, Core.back, Core.walkItems, Core.bound, Core.boolsOf, hx0, ha, hin, hok, okI]
            by_cases hq : i ∈ toI (lot ms j) <;> simp [hq]
          · simp [-List.map_map, Core.pyEq_int, Core.pyLt_int, Core.evSs, Core.evS.eq_1, Core.evS.eq_2, Core.evS.eq_3, Core.evS.eq_4, Core.evS.eq_5, Core.evS.eq_6, Core.evS.eq_7, Core.evS.eq_10, Core.evS.eq_11, Core.evS.eq_12, Core.evS.eq_13, Core.evS.eq_14, Core.evS.eq_15, Core.evE.eq_1, Core.evE.eq_2, Core.evE.eq_3, Core.evE.eq_4, Core.evE.eq_5, Core.evE.eq_6, Core.evE.eq_7, Core.evE.eq_8, Core.evE.eq_9, Core.evE.eq_10, Core.evE.eq_11, Core.evE.eq_12, Core.evE.eq_13, Core.evE.eq_14, Core.evE.eq_15, Core.evE.eq_16, Core.evEs, Core.evRs, Core.evC, Core.evI, Core.evT, Core.evV, Core.evHolds, Core.setAll, Core.Out.bind, Core.Out.ofO, Core.hold, Core.frz, Core.peek, Core.mk, Core.isLst, Core.isB, Core.do1, Core.do2, Core.doSl, Core.partD, Core.dupFree, Core.bors, Core.isOwn, Core.passArgs, Core.backArgs, Core.ctx_callf, Core.ctx_io, Core.ctx_turns, Core.finish, Core.handBack, Core.outPs, Core.entry, Core.bindT, Core.bindTs, Core.wipe, Core.back, Core.walkItems, Core.bound, Core.boolsOf]
      · rw [List.filter_map, List.map_map]
        congr 1
        apply List.filter_congr
        intro T _
        cases T <;> rfl
    have hne : ((trapsL ms).filter fun T => match T with | i :: _ => (toI (lot ms j)).contains i | [] => false) ≠ [] := by
      obtain ⟨i, r, h1, h2⟩ := trap_ahead h.In hj
      intro e
      have := List.filter_eq_nil_iff.mp e _ h1
      exact this (List.contains_iff_mem.mpr h2)
    have hp : ∀ l : List (List Int), l ≠ [] → pyEq (.list (l.map fun _ => PyData.int 1)) (.list []) = some false := fun l hl => by
      have e1 : (l.map fun _ => PyData.int 1) = intsN (l.map fun _ => 1) := by
        unfold intsN; rw [List.map_map]; rfl
      rw [e1, pyEq_nilL]
      cases l with
      | nil => exact absurd rfl hl
      | cons _ _ => rfl
    have hp := hp _ hne
    refine ⟨[s0, s1, s2, .v (encM ms), .v (.list (intsN (List.range ms.length))), .v (.list ((lots ms).map encT)), .v (.int (j : Int)), s7, s8, .no, s10, s11, s12, s13, s14, s15, s16, s17, s18], rfl, ?_, (fun e => by cases e), rfl⟩
    generalize (((trapsL ms).filter fun T => match T with | i :: _ => (toI (lot ms j)).contains i | [] => false).map fun _ => PyData.int 1) = cs at q4 hp
    simp [-List.map_map, Core.pyEq_int, Core.pyLt_int, Core.evSs, Core.evS.eq_1, Core.evS.eq_2, Core.evS.eq_3, Core.evS.eq_4, Core.evS.eq_5, Core.evS.eq_6, Core.evS.eq_7, Core.evS.eq_10, Core.evS.eq_11, Core.evS.eq_12, Core.evS.eq_13, Core.evS.eq_14, Core.evS.eq_15, Core.evE.eq_1, Core.evE.eq_2, Core.evE.eq_3, Core.evE.eq_4, Core.evE.eq_5, Core.evE.eq_6, Core.evE.eq_7, Core.evE.eq_8, Core.evE.eq_9, Core.evE.eq_10, Core.evE.eq_11, Core.evE.eq_12, Core.evE.eq_13, Core.evE.eq_14, Core.evE.eq_15, Core.evE.eq_16, Core.evEs, Core.evRs, Core.evC, Core.evI, Core.evT, Core.evV, Core.evHolds, Core.setAll, Core.Out.bind, Core.Out.ofO, Core.hold, Core.frz, Core.peek, Core.mk, Core.isLst, Core.isB, Core.do1, Core.do2, Core.doSl, Core.partD, Core.dupFree, Core.bors, Core.isOwn, Core.passArgs, Core.backArgs, Core.ctx_callf, Core.ctx_io, Core.ctx_turns, Core.finish, Core.handBack, Core.outPs, Core.entry, Core.bindT, Core.bindTs, Core.wipe, Core.back, Core.walkItems, Core.bound, Core.boolsOf, q4, hp]
theorem lq6 : evE C8 q22_6 [s0, s1, s2, .v (encM ms), s4, s5, .no, .v (.tuple ((trapsL ms).map encT)), s8, s9, s10, s11, s12, s13, s14, s15, s16, s17, s18] = .ok (.n (.list [])) [s0, s1, s2, .v (encM ms), s4, s5, .no, .v (.tuple ((trapsL ms).map encT)), s8, s9, s10, s11, s12, s13, s14, s15, s16, s17, s18] := by
  have hf : callK P 8 10 [.v (encM ms)] = .ok (encN (restsFrom 0 ms)) false [.v (encM ms)] := f10 3 h
  rw [encN_def] at hf
  refine lc_pure (fun _ => false) id (xs := intsN (restsFrom 0 ms)) (env1 := [s0, s1, s2, .v (encM ms), s4, s5, .no, .v (.tuple ((trapsL ms).map encT)), s8, s9, s10, s11, s12, s13, s14, s15, s16, s17, s18]) ?_ (fun x hx => ?_) (filt_no _) rfl
  · simp [-List.map_map, Core.pyEq_int, Core.pyLt_int, Core.evSs, Core.evS.eq_1, Core.evS.eq_2, Core.evS.eq_3, Core.evS.eq_4, Core.evS.eq_5, Core.evS.eq_6, Core.evS.eq_7, Core.evS.eq_10, Core.evS.eq_11, Core.evS.eq_12, Core.evS.eq_13, Core.evS.eq_14, Core.evS.eq_15, Core.evE.eq_1, Core.evE.eq_2, Core.evE.eq_3, Core.evE.eq_4, Core.evE.eq_5, Core.evE.eq_6, Core.evE.eq_7, Core.evE.eq_8, Core.evE.eq_9, Core.evE.eq_10, Core.evE.eq_11, Core.evE.eq_12, Core.evE.eq_13, Core.evE.eq_14, Core.evE.eq_15, Core.evE.eq_16, Core.evEs, Core.evRs, Core.evC, Core.evI, Core.evT, Core.evV, Core.evHolds, Core.setAll, Core.Out.bind, Core.Out.ofO, Core.hold, Core.frz, Core.peek, Core.mk, Core.isLst, Core.isB, Core.do1, Core.do2, Core.doSl, Core.partD, Core.dupFree, Core.bors, Core.isOwn, Core.passArgs, Core.backArgs, Core.ctx_callf, Core.ctx_io, Core.ctx_turns, Core.finish, Core.handBack, Core.outPs, Core.entry, Core.bindT, Core.bindTs, Core.wipe, Core.back, Core.walkItems, Core.bound, Core.boolsOf, hf]
  · obtain ⟨j, hj, rfl⟩ := List.mem_map.mp hx
    have ht := rest_trap h.In hj
    have hin : inL (.tuple [.int (j : Int)]) ((trapsL ms).map encT) = true := by
      have := inL_T [(j : Int)] (trapsL ms)
      rw [List.contains_iff_mem.mpr ht] at this
      exact this
    have hok := okTT (trapsL ms)
    have hok2 : okD (.tuple [.int (j : Int)]) = true := okT [(j : Int)]
    refine ⟨[s0, s1, s2, .v (encM ms), s4, s5, .v (.int (j : Int)), .v (.tuple ((trapsL ms).map encT)), s8, s9, s10, s11, s12, s13, s14, s15, s16, s17, s18], rfl, ?_, (fun e => by cases e), rfl⟩
    generalize (trapsL ms).map encT = tt at *
    simp [-List.map_map, Core.pyEq_int, Core.pyLt_int, Core.evSs, Core.evS.eq_1, Core.evS.eq_2, Core.evS.eq_3, Core.evS.eq_4, Core.evS.eq_5, Core.evS.eq_6, Core.evS.eq_7, Core.evS.eq_10, Core.evS.eq_11, Core.evS.eq_12, Core.evS.eq_13, Core.evS.eq_14, Core.evS.eq_15, Core.evE.eq_1, Core.evE.eq_2, Core.evE.eq_3, Core.evE.eq_4, Core.evE.eq_5, Core.evE.eq_6, Core.evE.eq_7, Core.evE.eq_8, Core.evE.eq_9, Core.evE.eq_10, Core.evE.eq_11, Core.evE.eq_12, Core.evE.eq_13, Core.evE.eq_14, Core.evE.eq_15, Core.evE.eq_16, Core.evEs, Core.evRs, Core.evC, Core.evI, Core.evT, Core.evV, Core.evHolds, Core.setAll, Core.Out.bind, Core.Out.ofO, Core.hold, Core.frz, Core.peek, Core.mk, Core.isLst, Core.isB, Core.do1, Core.do2, Core.doSl, Core.partD, Core.dupFree, Core.bors, Core.isOwn, Core.passArgs, Core.backArgs, Core.ctx_callf, Core.ctx_io, Core.ctx_turns, Core.finish, Core.handBack, Core.outPs, Core.entry, Core.bindT, Core.bindTs, Core.wipe, Core.back, Core.walkItems, Core.bound, Core.boolsOf, hin, hok, hok2]
omit hn in
theorem lq7 {hh : Nat} : evE C8 q22_7 [s0, s1, s2, s3, s4, s5, s6, .v (.tuple ((trapsL ms).map encT)), s8, .no, s10, .v (.int (hh : Int)), s12, s13, s14, s15, s16, s17, s18] = .ok (.n (.list ((nowL ms hh).map encT))) [s0, s1, s2, s3, s4, s5, s6, .v (.tuple ((trapsL ms).map encT)), s8, .no, s10, .v (.int (hh : Int)), s12, s13, s14, s15, s16, s17, s18] := by
  refine lc_pure (fun d => match d with | .tuple xs => (match intsOf xs with | some ns => ns.contains (hh : Int) | none => false) | _ => false) id (xs := (trapsL ms).map encT) (env1 := [s0, s1, s2, s3, s4, s5, s6, .v (.tuple ((trapsL ms).map encT)), s8, .no, s10, .v (.int (hh : Int)), s12, s13, s14, s15, s16, s17, s18]) ?_ (fun x hx => ?_) ?_ rfl
  · simp [-List.map_map, Core.pyEq_int, Core.pyLt_int, Core.evSs, Core.evS.eq_1, Core.evS.eq_2, Core.evS.eq_3, Core.evS.eq_4, Core.evS.eq_5, Core.evS.eq_6, Core.evS.eq_7, Core.evS.eq_10, Core.evS.eq_11, Core.evS.eq_12, Core.evS.eq_13, Core.evS.eq_14, Core.evS.eq_15, Core.evE.eq_1, Core.evE.eq_2, Core.evE.eq_3, Core.evE.eq_4, Core.evE.eq_5, Core.evE.eq_6, Core.evE.eq_7, Core.evE.eq_8, Core.evE.eq_9, Core.evE.eq_10, Core.evE.eq_11, Core.evE.eq_12, Core.evE.eq_13, Core.evE.eq_14, Core.evE.eq_15, Core.evE.eq_16, Core.evEs, Core.evRs, Core.evC, Core.evI, Core.evT, Core.evV, Core.evHolds, Core.setAll, Core.Out.bind, Core.Out.ofO, Core.hold, Core.frz, Core.peek, Core.mk, Core.isLst, Core.isB, Core.do1, Core.do2, Core.doSl, Core.partD, Core.dupFree, Core.bors, Core.isOwn, Core.passArgs, Core.backArgs, Core.ctx_callf, Core.ctx_io, Core.ctx_turns, Core.finish, Core.handBack, Core.outPs, Core.entry, Core.bindT, Core.bindTs, Core.wipe, Core.back, Core.walkItems, Core.bound, Core.boolsOf]
  · obtain ⟨T, hT, rfl⟩ := List.mem_map.mp hx
    refine ⟨[s0, s1, s2, s3, s4, s5, s6, .v (.tuple ((trapsL ms).map encT)), s8, .v (encT T), s10, .v (.int (hh : Int)), s12, s13, s14, s15, s16, s17, s18], rfl, ?_, fun _ => ?_, rfl⟩
    · have hin : inL (.int (hh : Int)) (T.map PyData.int) = T.contains (hh : Int) := inL_z _ _
      have hok : okD (.tuple (T.map PyData.int)) = true := okT T
      have e : (match encT T with | .tuple xs => (match intsOf xs with | some ns => ns.contains (hh : Int) | none => false) | _ => false) = T.contains (hh : Int) := by
        show (match intsOf (T.map PyData.int) with | some ns => ns.contains (hh : Int) | none => false) = _
        rw [intsOf_map]
      rw [e]
      have e1 : encT T = .tuple (T.map PyData.int) := rfl
      rw [e1]
      generalize T.map PyData.int = tt at *
      simp [-List.map_map, Core.pyEq_int, Core.pyLt_int, Core.evSs, Core.evS.eq_1, Core.evS.eq_2, Core.evS.eq_3, Core.evS.eq_4, Core.evS.eq_5, Core.evS.eq_6, Core.evS.eq_7, Core.evS.eq_10, Core.evS.eq_11, Core.evS.eq_12, Core.evS.eq_13, Core.evS.eq_14, Core.evS.eq_15, Core.evE.eq_1, Core.evE.eq_2, Core.evE.eq_3, Core.evE.eq_4, Core.evE.eq_5, Core.evE.eq_6, Core.evE.eq_7, Core.evE.eq_8, Core.evE.eq_9, Core.evE.eq_10, Core.evE.eq_11, Core.evE.eq_12, Core.evE.eq_13, Core.evE.eq_14, Core.evE.eq_15, Core.evE.eq_16, Core.evEs, Core.evRs, Core.evC, Core.evI, Core.evT, Core.evV, Core.evHolds, Core.setAll, Core.Out.bind, Core.Out.ofO, Core.hold, Core.frz, Core.peek, Core.mk, Core.isLst, Core.isB, Core.do1, Core.do2, Core.doSl, Core.partD, Core.dupFree, Core.bors, Core.isOwn, Core.passArgs, Core.backArgs, Core.ctx_callf, Core.ctx_io, Core.ctx_turns, Core.finish, Core.handBack, Core.outPs, Core.entry, Core.bindT, Core.bindTs, Core.wipe, Core.back, Core.walkItems, Core.bound, Core.boolsOf, hin, hok, okI]
      by_cases hq : (hh : Int) ∈ T <;> simp [hq]
    · simp [-List.map_map, Core.pyEq_int, Core.pyLt_int, Core.evSs, Core.evS.eq_1, Core.evS.eq_2, Core.evS.eq_3, Core.evS.eq_4, Core.evS.eq_5, Core.evS.eq_6, Core.evS.eq_7, Core.evS.eq_10, Core.evS.eq_11, Core.evS.eq_12, Core.evS.eq_13, Core.evS.eq_14, Core.evS.eq_15, Core.evE.eq_1, Core.evE.eq_2, Core.evE.eq_3, Core.evE.eq_4, Core.evE.eq_5, Core.evE.eq_6, Core.evE.eq_7, Core.evE.eq_8, Core.evE.eq_9, Core.evE.eq_10, Core.evE.eq_11, Core.evE.eq_12, Core.evE.eq_13, Core.evE.eq_14, Core.evE.eq_15, Core.evE.eq_16, Core.evEs, Core.evRs, Core.evC, Core.evI, Core.evT, Core.evV, Core.evHolds, Core.setAll, Core.Out.bind, Core.Out.ofO, Core.hold, Core.frz, Core.peek, Core.mk, Core.isLst, Core.isB, Core.do1, Core.do2, Core.doSl, Core.partD, Core.dupFree, Core.bors, Core.isOwn, Core.passArgs, Core.backArgs, Core.ctx_callf, Core.ctx_io, Core.ctx_turns, Core.finish, Core.handBack, Core.outPs, Core.entry, Core.bindT, Core.bindTs, Core.wipe, Core.back, Core.walkItems, Core.bound, Core.boolsOf]
  · rw [List.map_id, List.filter_map]
    unfold nowL
    congr 1
    apply List.filter_congr
    intro l _
    show (match intsOf (l.map PyData.int) with | some ns => ns.contains (hh : Int) | none => false) = _
    rw [intsOf_map]
end
end C65
end Core
end

section
set_option linter.all false
set_option autoImplicit false
set_option maxRecDepth 100000
set_option maxHeartbeats 4000000
namespace Core
open PySem PySem.W
namespace C65
open B
theorem f18t (k : Nat) (a b : Int) (xs : List D) (h0 : xs ≠ []) (h1 : xs.length < 1000) : ∃ x, x ∈ xs ∧ ∃ (a' b' : Int), callK P (k + 2) 18 [.o [.int a, .int b], .v (.tuple xs)] = .ok x false [.o [.int a', .int b'], .v (.tuple xs)] := by
  rw [callK_eq (cf := cf18) rfl rfl]
  have hp : 0 < xs.length := List.length_pos_iff.mpr h0
  obtain ⟨v, a', b', e, v0, v1⟩ := f17 k a b xs.length (by omega) (by omega)
  refine ⟨xs[v.toNat]'(by omega), List.getElem_mem _, a', b', ?_⟩
  have hx : atI xs v = some (xs[v.toNat]'(by omega)) := by
    unfold atI ixN
    rw [if_pos v0, if_pos v1]
    exact List.getElem?_eq_getElem _
  simp [-List.map_map, Core.pyEq_int, Core.pyLt_int, Core.evSs, Core.evS.eq_1, Core.evS.eq_2, Core.evS.eq_3, Core.evS.eq_4, Core.evS.eq_5, Core.evS.eq_6, Core.evS.eq_7, Core.evS.eq_10, Core.evS.eq_11, Core.evS.eq_12, Core.evS.eq_13, Core.evS.eq_14, Core.evS.eq_15, Core.evE.eq_1, Core.evE.eq_2, Core.evE.eq_3, Core.evE.eq_4, Core.evE.eq_5, Core.evE.eq_6, Core.evE.eq_7, Core.evE.eq_8, Core.evE.eq_9, Core.evE.eq_10, Core.evE.eq_11, Core.evE.eq_12, Core.evE.eq_13, Core.evE.eq_14, Core.evE.eq_15, Core.evE.eq_16, Core.evEs, Core.evRs, Core.evC, Core.evI, Core.evT, Core.evV, Core.evHolds, Core.setAll, Core.Out.bind, Core.Out.ofO, Core.hold, Core.frz, Core.peek, Core.mk, Core.isLst, Core.isB, Core.do1, Core.do2, Core.doSl, Core.partD, Core.dupFree, Core.bors, Core.isOwn, Core.passArgs, Core.backArgs, Core.ctx_callf, Core.ctx_io, Core.ctx_turns, Core.finish, Core.handBack, Core.outPs, Core.entry, Core.bindT, Core.bindTs, Core.wipe, Core.back, Core.walkItems, Core.bound, Core.boolsOf, cf18, b18, e, hx]
/-- what the walk remembers -/
def InsOk (ms : Mv) (h : Nat) (d : D) : Prop := d = .none ∨ (nowL ms h ≠ [] ∧ d = .list ((nowL ms h).map encT))
theorem walk (ms : Mv) (h : MovesOk ms) (hn : ms.length ≤ 7) (s0 s2 s4 s5 s8 s10 s13 s14 s15 s16 s17 s18 : Sl) (a b : Int) (x : Nat) (hx : x < ms.length) (ins : D) (hi : InsOk ms x ins) :
    ∃ (a' b' : Int) (y : Nat) (ins' : D) (t14 : Sl), y < ms.length ∧ InsOk ms y ins' ∧ evSs C8 l22_8 [s0, .o [.int a, .int b], s2, .v (encM ms), s4, s5, .no, .v (.tuple ((trapsL ms).map encT)), s8, .no, s10, .v (.int (x : Int)), .v ins, s13, s14, s15, s16, s17, s18] = .ok .next [s0, .o [.int a', .int b'], s2, .v (encM ms), s4, s5, .no, .v (.tuple ((trapsL ms).map encT)), s8, .no, s10, .v (.int (y : Int)), .v ins', s13, t14, s15, s16, s17, s18] := by
  have ra := row_at hx
  -- the move
  have mv : ∃ (a' b' : Int) (y : Nat), y < ms.length ∧ (y = x ∨ ∃ p ∈ row ms x, p.2 = y) ∧ evS C8 (.ite (.o2 .ne (.o2 .idx (.var 3) (.var 11)) (.tup [])) [.asg 11 (.o2 .idx (.call 18 [(.var 1), (.o2 .idx (.var 3) (.var 11))]) (.cst (.int 1)))] []) [s0, .o [.int a, .int b], s2, .v (encM ms), s4, s5, .no, .v (.tuple ((trapsL ms).map encT)), s8, .no, s10, .v (.int (x : Int)), .v ins, s13, s14, s15, s16, s17, s18] = .ok .next [s0, .o [.int a', .int b'], s2, .v (encM ms), s4, s5, .no, .v (.tuple ((trapsL ms).map encT)), s8, .no, s10, .v (.int (y : Int)), .v ins, s13, s14, s15, s16, s17, s18] := by
    have e : encM ms = .tuple (ms.map encR) := rfl
    rw [e]
    by_cases hr : row ms x = []
    · refine ⟨a, b, x, hx, .inl rfl, ?_⟩
      simp [-List.map_map, Core.pyEq_int, Core.pyLt_int, Core.evSs, Core.evS.eq_1, Core.evS.eq_2, Core.evS.eq_3, Core.evS.eq_4, Core.evS.eq_5, Core.evS.eq_6, Core.evS.eq_7, Core.evS.eq_10, Core.evS.eq_11, Core.evS.eq_12, Core.evS.eq_13, Core.evS.eq_14, Core.evS.eq_15, Core.evE.eq_1, Core.evE.eq_2, Core.evE.eq_3, Core.evE.eq_4, Core.evE.eq_5, Core.evE.eq_6, Core.evE.eq_7, Core.evE.eq_8, Core.evE.eq_9, Core.evE.eq_10, Core.evE.eq_11, Core.evE.eq_12, Core.evE.eq_13, Core.evE.eq_14, Core.evE.eq_15, Core.evE.eq_16, Core.evEs, Core.evRs, Core.evC, Core.evI, Core.evT, Core.evV, Core.evHolds, Core.setAll, Core.Out.bind, Core.Out.ofO, Core.hold, Core.frz, Core.peek, Core.mk, Core.isLst, Core.isB, Core.do1, Core.do2, Core.doSl, Core.partD, Core.dupFree, Core.bors, Core.isOwn, Core.passArgs, Core.backArgs, Core.ctx_callf, Core.ctx_io, Core.ctx_turns, Core.finish, Core.handBack, Core.outPs, Core.entry, Core.bindT, Core.bindTs, Core.wipe, Core.back, Core.walkItems, Core.bound, Core.boolsOf, ra, pyEq_row, hr]
    · have hl : ((row ms x).map encP).length < 1000 := by
        rw [List.length_map]
        have : row ms x ∈ ms := by
          unfold B.row
          rw [List.getElem?_eq_getElem hx]
          exact List.getElem_mem _
        have := (h.2.2.1 _ this).1
        omega
      obtain ⟨d, hd, a', b', hc⟩ := f18t 6 a b ((row ms x).map encP) (by simpa using hr) hl
      obtain ⟨p, hp, rfl⟩ := List.mem_map.mp hd
      refine ⟨a', b', p.2, h.In x p hp, .inr ⟨p, hp, rfl⟩, ?_⟩
      have hc' : callK P 8 18 [.o [.int a, .int b], .v (encR (row ms x))] = .ok (encP p) false [.o [.int a', .int b'], .v (encR (row ms x))] := hc
      have h1 : atI [PyData.int (p.1 : Int), PyData.int (p.2 : Int)] 1 = some (.int (p.2 : Int)) := rfl
      simp [-List.map_map, Core.pyEq_int, Core.pyLt_int, Core.evSs, Core.evS.eq_1, Core.evS.eq_2, Core.evS.eq_3, Core.evS.eq_4, Core.evS.eq_5, Core.evS.eq_6, Core.evS.eq_7, Core.evS.eq_10, Core.evS.eq_11, Core.evS.eq_12, Core.evS.eq_13, Core.evS.eq_14, Core.evS.eq_15, Core.evE.eq_1, Core.evE.eq_2, Core.evE.eq_3, Core.evE.eq_4, Core.evE.eq_5, Core.evE.eq_6, Core.evE.eq_7, Core.evE.eq_8, Core.evE.eq_9, Core.evE.eq_10, Core.evE.eq_11, Core.evE.eq_12, Core.evE.eq_13, Core.evE.eq_14, Core.evE.eq_15, Core.evE.eq_16, Core.evEs, Core.evRs, Core.evC, Core.evI, Core.evT, Core.evV, Core.evHolds, Core.setAll, Core.Out.bind, Core.Out.ofO, Core.hold, Core.frz, Core.peek, Core.mk, Core.isLst, Core.isB, Core.do1, Core.do2, Core.doSl, Core.partD, Core.dupFree, Core.bors, Core.isOwn, Core.passArgs, Core.backArgs, Core.ctx_callf, Core.ctx_io, Core.ctx_turns, Core.finish, Core.handBack, Core.outPs, Core.entry, Core.bindT, Core.bindTs, Core.wipe, Core.back, Core.walkItems, Core.bound, Core.boolsOf, ra, pyEq_row, hr, hc', encP, h1]
  obtain ⟨a', b', y, hy, hxy, e1⟩ := mv
  have q7 := lq7 ms h s0 (.o [.int a', .int b']) s2 (.v (encM ms)) s4 s5 .no s8 s10 (.v ins) s13 s14 s15 s16 s17 s18 (hh := y)
  have hnil : ∀ l : List (List Int), pyEq (.list (l.map encT)) (.list []) = some (decide (l = [])) := fun l => pyEq_TL l []
  have hnl := hnil (nowL ms y)
  rcases hi with rfl | ⟨hne, rfl⟩
  · by_cases hz : nowL ms y = []
    · refine ⟨a', b', y, .none, .o ((nowL ms y).map encT), hy, .inl rfl, ?_⟩
      rw [hz] at q7 hnl
      rw [hz]
      have hnl' : pyEq (.list []) (.list []) = some true := hnl
      have q7' : evE C8 q22_7 [s0, .o [.int a', .int b'], s2, .v (encM ms), s4, s5, .no, .v (.tuple ((trapsL ms).map encT)), s8, .no, s10, .v (.int (y : Int)), .v .none, s13, s14, s15, s16, s17, s18] = .ok (.n (.list [])) [s0, .o [.int a', .int b'], s2, .v (encM ms), s4, s5, .no, .v (.tuple ((trapsL ms).map encT)), s8, .no, s10, .v (.int (y : Int)), .v .none, s13, s14, s15, s16, s17, s18] := q7
      simp [-List.map_map, Core.pyEq_int, Core.pyLt_int, Core.evSs, Core.evS.eq_1, Core.evS.eq_2, Core.evS.eq_3, Core.evS.eq_4, Core.evS.eq_5, Core.evS.eq_6, Core.evS.eq_7, Core.evS.eq_10, Core.evS.eq_11, Core.evS.eq_12, Core.evS.eq_13, Core.evS.eq_14, Core.evS.eq_15, Core.evE.eq_1, Core.evE.eq_2, Core.evE.eq_3, Core.evE.eq_4, Core.evE.eq_5, Core.evE.eq_6, Core.evE.eq_7, Core.evE.eq_8, Core.evE.eq_9, Core.evE.eq_10, Core.evE.eq_11, Core.evE.eq_12, Core.evE.eq_13, Core.evE.eq_14, Core.evE.eq_15, Core.evE.eq_16, Core.evEs, Core.evRs, Core.evC, Core.evI, Core.evT, Core.evV, Core.evHolds, Core.setAll, Core.Out.bind, Core.Out.ofO, Core.hold, Core.frz, Core.peek, Core.mk, Core.isLst, Core.isB, Core.do1, Core.do2, Core.doSl, Core.partD, Core.dupFree, Core.bors, Core.isOwn, Core.passArgs, Core.backArgs, Core.ctx_callf, Core.ctx_io, Core.ctx_turns, Core.finish, Core.handBack, Core.outPs, Core.entry, Core.bindT, Core.bindTs, Core.wipe, Core.back, Core.walkItems, Core.bound, Core.boolsOf, l22_8, e1, q7', isConst, hnl']
    · refine ⟨a', b', y, .list ((nowL ms y).map encT), .v (.list ((nowL ms y).map encT)), hy, .inr ⟨hz, rfl⟩, ?_⟩
      rw [decide_eq_false hz] at hnl
      generalize (nowL ms y).map encT = nn at q7 hnl
      simp [-List.map_map, Core.pyEq_int, Core.pyLt_int, Core.evSs, Core.evS.eq_1, Core.evS.eq_2, Core.evS.eq_3, Core.evS.eq_4, Core.evS.eq_5, Core.evS.eq_6, Core.evS.eq_7, Core.evS.eq_10, Core.evS.eq_11, Core.evS.eq_12, Core.evS.eq_13, Core.evS.eq_14, Core.evS.eq_15, Core.evE.eq_1, Core.evE.eq_2, Core.evE.eq_3, Core.evE.eq_4, Core.evE.eq_5, Core.evE.eq_6, Core.evE.eq_7, Core.evE.eq_8, Core.evE.eq_9, Core.evE.eq_10, Core.evE.eq_11, Core.evE.eq_12, Core.evE.eq_13, Core.evE.eq_14, Core.evE.eq_15, Core.evE.eq_16, Core.evEs, Core.evRs, Core.evC, Core.evI, Core.evT, Core.evV, Core.evHolds, Core.setAll, Core.Out.bind, Core.Out.ofO, Core.hold, Core.frz, Core.peek, Core.mk, Core.isLst, Core.isB, Core.do1, Core.do2, Core.doSl, Core.partD, Core.dupFree, Core.bors, Core.isOwn, Core.passArgs, Core.backArgs, Core.ctx_callf, Core.ctx_io, Core.ctx_turns, Core.finish, Core.handBack, Core.outPs, Core.entry, Core.bindT, Core.bindTs, Core.wipe, Core.back, Core.walkItems, Core.bound, Core.boolsOf, l22_8, e1, q7, isConst, hnl]
  · have hyn : nowL ms y = nowL ms x := by
      rcases hxy with rfl | ⟨p, hp, rfl⟩
      · rfl
      · exact nowL_step h.In hx hne hp
    have hself : pyEq (.list ((nowL ms x).map encT)) (.list ((nowL ms x).map encT)) = some true := by
      rw [pyEq_TL]
      simp
    have hz : nowL ms y ≠ [] := by rw [hyn]; exact hne
    refine ⟨a', b', y, .list ((nowL ms y).map encT), .v (.list ((nowL ms y).map encT)), hy, .inr ⟨hz, rfl⟩, ?_⟩
    rw [decide_eq_false hz] at hnl
    rw [hyn] at hnl q7 ⊢
    generalize (nowL ms x).map encT = nn at *
    simp [-List.map_map, Core.pyEq_int, Core.pyLt_int, Core.evSs, Core.evS.eq_1, Core.evS.eq_2, Core.evS.eq_3, Core.evS.eq_4, Core.evS.eq_5, Core.evS.eq_6, Core.evS.eq_7, Core.evS.eq_10, Core.evS.eq_11, Core.evS.eq_12, Core.evS.eq_13, Core.evS.eq_14, Core.evS.eq_15, Core.evE.eq_1, Core.evE.eq_2, Core.evE.eq_3, Core.evE.eq_4, Core.evE.eq_5, Core.evE.eq_6, Core.evE.eq_7, Core.evE.eq_8, Core.evE.eq_9, Core.evE.eq_10, Core.evE.eq_11, Core.evE.eq_12, Core.evE.eq_13, Core.evE.eq_14, Core.evE.eq_15, Core.evE.eq_16, Core.evEs, Core.evRs, Core.evC, Core.evI, Core.evT, Core.evV, Core.evHolds, Core.setAll, Core.Out.bind, Core.Out.ofO, Core.hold, Core.frz, Core.peek, Core.mk, Core.isLst, Core.isB, Core.do1, Core.do2, Core.doSl, Core.partD, Core.dupFree, Core.bors, Core.isOwn, Core.passArgs, Core.backArgs, Core.ctx_callf, Core.ctx_io, Core.ctx_turns, Core.finish, Core.handBack, Core.outPs, Core.entry, Core.bindT, Core.bindTs, Core.wipe, Core.back, Core.walkItems, Core.bound, Core.boolsOf, l22_8, e1, q7, isConst, hnl, hself]
end C65
end Core
end

section
set_option linter.all false
set_option autoImplicit false
set_option maxRecDepth 100000
set_option maxHeartbeats 4000000
namespace Core
open PySem PySem.W
theorem pyEq_bool (a b : Bool) : pyEq (.bool a) (.bool b) = some (decide (a = b)) := by
  cases a <;> cases b <;> simp [pyEq, okD, dep, PyData.eqv]
namespace C65
open B
theorem sure_law (ms : Mv) (s0 s1 s2 s3 s4 s5 s6 s8 s9 s10 s11 s12 s13 s14 s15 s16 s17 s18 : Sl) : evE C8 (.and_ (.o2 .eq (.o1 .len (.var 7)) (.cst (.int 1))) (.o2 .eq (.o1 .len (.o2 .idx (.var 7) (.cst (.int 0)))) (.cst (.int 1)))) [s0, s1, s2, s3, s4, s5, s6, .v (.tuple ((trapsL ms).map encT)), s8, s9, s10, s11, s12, s13, s14, s15, s16, s17, s18] = .ok (.f (.bool (sureB ms))) [s0, s1, s2, s3, s4, s5, s6, .v (.tuple ((trapsL ms).map encT)), s8, s9, s10, s11, s12, s13, s14, s15, s16, s17, s18] := by
  unfold sureB
  generalize trapsL ms = tl
  match tl with
  | [] => simp [-List.map_map, Core.pyEq_int, Core.pyLt_int, Core.evSs, Core.evS.eq_1, Core.evS.eq_2, Core.evS.eq_3, Core.evS.eq_4, Core.evS.eq_5, Core.evS.eq_6, Core.evS.eq_7, Core.evS.eq_10, Core.evS.eq_11, Core.evS.eq_12, Core.evS.eq_13, Core.evS.eq_14, Core.evS.eq_15, Core.evE.eq_1, Core.evE.eq_2, Core.evE.eq_3, Core.evE.eq_4, Core.evE.eq_5, Core.evE.eq_6, Core.evE.eq_7, Core.evE.eq_8, Core.evE.eq_9, Core.evE.eq_10, Core.evE.eq_11, Core.evE.eq_12, Core.evE.eq_13, Core.evE.eq_14, Core.evE.eq_15, Core.evE.eq_16, Core.evEs, Core.evRs, Core.evC, Core.evI, Core.evT, Core.evV, Core.evHolds, Core.setAll, Core.Out.bind, Core.Out.ofO, Core.hold, Core.frz, Core.peek, Core.mk, Core.isLst, Core.isB, Core.do1, Core.do2, Core.doSl, Core.partD, Core.dupFree, Core.bors, Core.isOwn, Core.passArgs, Core.backArgs, Core.ctx_callf, Core.ctx_io, Core.ctx_turns, Core.finish, Core.handBack, Core.outPs, Core.entry, Core.bindT, Core.bindTs, Core.wipe, Core.back, Core.walkItems, Core.bound, Core.boolsOf]
  | [l] =>
    simp [-List.map_map, Core.pyEq_int, Core.pyLt_int, Core.evSs, Core.evS.eq_1, Core.evS.eq_2, Core.evS.eq_3, Core.evS.eq_4, Core.evS.eq_5, Core.evS.eq_6, Core.evS.eq_7, Core.evS.eq_10, Core.evS.eq_11, Core.evS.eq_12, Core.evS.eq_13, Core.evS.eq_14, Core.evS.eq_15, Core.evE.eq_1, Core.evE.eq_2, Core.evE.eq_3, Core.evE.eq_4, Core.evE.eq_5, Core.evE.eq_6, Core.evE.eq_7, Core.evE.eq_8, Core.evE.eq_9, Core.evE.eq_10, Core.evE.eq_11, Core.evE.eq_12, Core.evE.eq_13, Core.evE.eq_14, Core.evE.eq_15, Core.evE.eq_16, Core.evEs, Core.evRs, Core.evC, Core.evI, Core.evT, Core.evV, Core.evHolds, Core.setAll, Core.Out.bind, Core.Out.ofO, Core.hold, Core.frz, Core.peek, Core.mk, Core.isLst, Core.isB, Core.do1, Core.do2, Core.doSl, Core.partD, Core.dupFree, Core.bors, Core.isOwn, Core.passArgs, Core.backArgs, Core.ctx_callf, Core.ctx_io, Core.ctx_turns, Core.finish, Core.handBack, Core.outPs, Core.entry, Core.bindT, Core.bindTs, Core.wipe, Core.back, Core.walkItems, Core.bound, Core.boolsOf, atI, ixN, encT]
    by_cases hl : l.length = 1
    · simp [hl]
    · have : ¬ ((l.length : Int) = 1) := by omega
      simp [hl, this]
  | l :: l' :: r =>
    have : ¬ ((r.length : Int) + 1 + 1 = 1) := by omega
    simp [-List.map_map, Core.pyEq_int, Core.pyLt_int, Core.evSs, Core.evS.eq_1, Core.evS.eq_2, Core.evS.eq_3, Core.evS.eq_4, Core.evS.eq_5, Core.evS.eq_6, Core.evS.eq_7, Core.evS.eq_10, Core.evS.eq_11, Core.evS.eq_12, Core.evS.eq_13, Core.evS.eq_14, Core.evS.eq_15, Core.evE.eq_1, Core.evE.eq_2, Core.evE.eq_3, Core.evE.eq_4, Core.evE.eq_5, Core.evE.eq_6, Core.evE.eq_7, Core.evE.eq_8, Core.evE.eq_9, Core.evE.eq_10, Core.evE.eq_11, Core.evE.eq_12, Core.evE.eq_13, Core.evE.eq_14, Core.evE.eq_15, Core.evE.eq_16, Core.evEs, Core.evRs, Core.evC, Core.evI, Core.evT, Core.evV, Core.evHolds, Core.setAll, Core.Out.bind, Core.Out.ofO, Core.hold, Core.frz, Core.peek, Core.mk, Core.isLst, Core.isB, Core.do1, Core.do2, Core.doSl, Core.partD, Core.dupFree, Core.bors, Core.isOwn, Core.passArgs, Core.backArgs, Core.ctx_callf, Core.ctx_io, Core.ctx_turns, Core.finish, Core.handBack, Core.outPs, Core.entry, Core.bindT, Core.bindTs, Core.wipe, Core.back, Core.walkItems, Core.bound, Core.boolsOf, this]
theorem turn (s0 t2 t3 t4 t5 t7 t10 t11 t12 t13 t14 s15 s16 s17 s18 : Sl) (a b : Int) : ∃ a' b' u3 u4 u5 u7 u10 u11 u12 u13 u14, evSs C8 l22_9 [s0, .o [.int a, .int b], t2, t3, t4, t5, .no, t7, .no, .no, t10, t11, t12, t13, t14, s15, s16, s17, s18] = .ok .next [s0, .o [.int a', .int b'], t2, u3, u4, u5, .no, u7, .no, .no, u10, u11, u12, u13, u14, s15, s16, s17, s18] := by
  obtain ⟨v, a1, b1, e1, v0, v1⟩ := f17 7 a b 7 (by omega) (by omega)
  obtain ⟨ms, a2, b2, e2, hM, hn, h3⟩ := f19 5 a1 b1 (1 + v.toNat) (by omega) (by omega)
  have ev1 : (((1 + v.toNat : Nat) : Int)) = 1 + v := by omega
  rw [ev1] at e2
  have hpos : 1 ≤ ms.length := hM.1
  have e13 : callK P 8 13 [.v (encM ms)] = .ok (.tuple ((trapsL ms).map encT)) false [.v (encM ms)] := f13 3 hM hn
  have e15 : callK P 8 15 [.v (encM ms)] = .ok (.bool (sureB ms)) false [.v (encM ms)] := f15 3 hM hn
  have q0 := lq0 ms hM hn s0 (.o [.int a2, .int b2]) t2 t5 t7 .no .no t10 t11 t12 t13 t14 s15 s16 s17 s18
  have q2 := lq2 ms hM hn s0 (.o [.int a2, .int b2]) t2 (.v (encM ms)) (.v (.list (intsN (List.range ms.length)))) t7 .no t10 t11 t12 t13 t14 s15 s16 s17 s18
  have q3 := lq3 ms hM hn s0 (.o [.int a2, .int b2]) t2 (.v (.tuple ((trapsL ms).map encT))) .no .no t10 t11 t12 t13 t14 s15 s16 s17 s18
  have q5 := lq5 ms hM hn s0 (.o [.int a2, .int b2]) t2 (.v (.tuple ((trapsL ms).map encT))) .no t10 t11 t12 t13 t14 s15 s16 s17 s18
  have q6 := lq6 ms hM hn s0 (.o [.int a2, .int b2]) t2 (.v (.list (intsN (List.range ms.length)))) (.v (.list ((lots ms).map encT))) .no .no (.v (.bool (sureB ms))) t11 t12 t13 t14 s15 s16 s17 s18
  have qs := sure_law ms s0 (.o [.int a2, .int b2]) t2 (.v (encM ms)) (.v (.list (intsN (List.range ms.length)))) (.v (.list ((lots ms).map encT))) .no .no .no (.v (.bool (sureB ms))) t11 t12 t13 t14 s15 s16 s17 s18
  have hs : sset (((lots ms).filter (trapB ms)).map encT) = some (.list ((trapsL ms).map encT)) := sset_tups ((lots ms).filter (trapB ms)) (by
    have := List.length_filter_le (trapB ms) (lots ms)
    rw [lots_len] at this
    omega) (fun x hx => lots_ne x (List.mem_filter.mp hx).1)
  obtain ⟨env1, w1, a3, b3, y, ins, t13', t14', hy, hins, rfl⟩ := forGo_inv (tg := .nm 13) (body := evSs C8 l22_8) (fun i e => ∃ (a' b' : Int) (y : Nat) (ins : D) (t13 t14 : Sl), y < ms.length ∧ InsOk ms y ins ∧ e = [s0, .o [.int a', .int b'], t2, .v (encM ms), .v (.list (intsN (List.range ms.length))), .v (.list ((lots ms).map encT)), .no, .v (.tuple ((trapsL ms).map encT)), .no, .no, .v (.bool (sureB ms)), .v (.int (y : Int)), .v ins, t13, t14, s15, s16, s17, s18]) (rngD 0 20) 0 (fun j x hx env ⟨a', b', y, ins, t13, t14, hy, hi, g⟩ => by
    subst g
    obtain ⟨a4, b4, y', ins', u14, k1, k2, k3⟩ := walk ms hM hn s0 t2 (.v (.list (intsN (List.range ms.length)))) (.v (.list ((lots ms).map encT))) .no (.v (.bool (sureB ms))) (.v x) t14 s15 s16 s17 s18 a' b' y hy ins hi
    exact ⟨_, _, rfl, k3, a4, b4, y', ins', .v x, u14, k1, k2, rfl⟩) [s0, .o [.int a2, .int b2], t2, .v (encM ms), .v (.list (intsN (List.range ms.length))), .v (.list ((lots ms).map encT)), .no, .v (.tuple ((trapsL ms).map encT)), .no, .no, .v (.bool (sureB ms)), .v (.int (0 : Nat)), .v .none, t13, t14, s15, s16, s17, s18] ⟨a2, b2, 0, .none, t13, t14, by omega, .inl rfl, rfl⟩
  have hself : pyEq (.tuple ((trapsL ms).map encT)) (.tuple ((trapsL ms).map encT)) = some true := by
    rw [pyEq_TT]; simp
  have hnil : pyEq (.list []) (.list []) = some true := pyEq_TL [] []
  have hI : evS C8 (.for_ (.nm 13) (.rng (.cst (.int 20))) l22_8) [s0, .o [.int a2, .int b2], t2, .v (encM ms), .v (.list (intsN (List.range ms.length))), .v (.list ((lots ms).map encT)), .no, .v (.tuple ((trapsL ms).map encT)), .no, .no, .v (.bool (sureB ms)), .v (.int 0), .v .none, t13, t14, s15, s16, s17, s18] = .ok .next [s0, .o [.int a3, .int b3], t2, .v (encM ms), .v (.list (intsN (List.range ms.length))), .v (.list ((lots ms).map encT)), .no, .v (.tuple ((trapsL ms).map encT)), .no, .no, .v (.bool (sureB ms)), .v (.int (y : Int)), .v ins, t13', t14', s15, s16, s17, s18] := by
    rw [evS]
    have hi : ∀ env, evI C8 (.rng (.cst (.int 20))) env = .ok (rngD 0 20) env := fun env => rfl
    rw [hi]
    exact w1
  refine ⟨a3, b3, .v (encM ms), .v (.list (intsN (List.range ms.length))), .v (.list ((lots ms).map encT)), .v (.tuple ((trapsL ms).map encT)), .v (.bool (sureB ms)), .v (.int (y : Int)), .v ins, t13', t14', ?_⟩
  have hn1 : (-16000000 : Int) ≤ ms.length := by omega
  have hn2 : (ms.length : Int) ≤ 16000000 := by omega
  obtain ⟨X, hX, hXl⟩ : ∃ X, encM ms = .tuple X ∧ X.length = ms.length := ⟨ms.map encR, rfl, List.length_map ..⟩
  simp only [Nat.reduceAdd] at e1 e2
  rw [hX] at e2 e13 e15 q0 q2 q3 q5 q6 qs hI ⊢
  have hr : rngD 0 ms.length = intsN (List.range ms.length) := rng_nat _
  generalize (trapsL ms).map encT = tt at *
  generalize (lots ms).map encT = ll at *
  generalize intsN (List.range ms.length) = rr at *
  generalize ((lots ms).filter (trapB ms)).map encT = ff at *
  have hA : evSs C8 (l22_9.take 7) [s0, .o [.int a, .int b], t2, t3, t4, t5, .no, t7, .no, .no, t10, t11, t12, t13, t14, s15, s16, s17, s18] = .ok .next [s0, .o [.int a2, .int b2], t2, .v (.tuple X), .v (.list rr), .v (.list ll), .no, .v (.tuple tt), .no, .no, .v (.bool (sureB ms)), t11, t12, t13, t14, s15, s16, s17, s18] := by
    simp [-List.map_map, Core.pyEq_int, Core.pyLt_int, Core.evSs, Core.evS.eq_1, Core.evS.eq_2, Core.evS.eq_3, Core.evS.eq_4, Core.evS.eq_5, Core.evS.eq_6, Core.evS.eq_7, Core.evS.eq_10, Core.evS.eq_11, Core.evS.eq_12, Core.evS.eq_13, Core.evS.eq_14, Core.evS.eq_15, Core.evE.eq_1, Core.evE.eq_2, Core.evE.eq_3, Core.evE.eq_4, Core.evE.eq_5, Core.evE.eq_6, Core.evE.eq_7, Core.evE.eq_8, Core.evE.eq_9, Core.evE.eq_10, Core.evE.eq_11, Core.evE.eq_12, Core.evE.eq_13, Core.evE.eq_14, Core.evE.eq_15, Core.evE.eq_16, Core.evEs, Core.evRs, Core.evC, Core.evI, Core.evT, Core.evV, Core.evHolds, Core.setAll, Core.Out.bind, Core.Out.ofO, Core.hold, Core.frz, Core.peek, Core.mk, Core.isLst, Core.isB, Core.do1, Core.do2, Core.doSl, Core.partD, Core.dupFree, Core.bors, Core.isOwn, Core.passArgs, Core.backArgs, Core.ctx_callf, Core.ctx_io, Core.ctx_turns, Core.finish, Core.handBack, Core.outPs, Core.entry, Core.bindT, Core.bindTs, Core.wipe, Core.back, Core.walkItems, Core.bound, Core.boolsOf, l22_9, e1, e2, hXl, hn1, hn2, hr, q0, q2, hs, e13, hself, q3, hnil, q5, e15]
  have hS : evSs C8 ((l22_9.drop 7).take 1) [s0, .o [.int a2, .int b2], t2, .v (.tuple X), .v (.list rr), .v (.list ll), .no, .v (.tuple tt), .no, .no, .v (.bool (sureB ms)), t11, t12, t13, t14, s15, s16, s17, s18] = .ok .next [s0, .o [.int a2, .int b2], t2, .v (.tuple X), .v (.list rr), .v (.list ll), .no, .v (.tuple tt), .no, .no, .v (.bool (sureB ms)), t11, t12, t13, t14, s15, s16, s17, s18] := by
    show evSs C8 [.ite (.or_ (.not_ (.o1 .isB (.var 10))) (.o2 .ne (.var 10) (.and_ (.o2 .eq (.o1 .len (.var 7)) (.cst (.int 1))) (.o2 .eq (.o1 .len (.o2 .idx (.var 7) (.cst (.int 0)))) (.cst (.int 1)))))) [.ret (.cst (.bool false))] []] _ = _
    generalize CE.and_ (.o2 .eq (.o1 .len (.var 7)) (.cst (.int 1))) (.o2 .eq (.o1 .len (.o2 .idx (.var 7) (.cst (.int 0)))) (.cst (.int 1))) = ce at qs
    simp [-List.map_map, Core.pyEq_int, Core.pyLt_int, Core.evSs, Core.evS.eq_1, Core.evS.eq_2, Core.evS.eq_3, Core.evS.eq_4, Core.evS.eq_5, Core.evS.eq_6, Core.evS.eq_7, Core.evS.eq_10, Core.evS.eq_11, Core.evS.eq_12, Core.evS.eq_13, Core.evS.eq_14, Core.evS.eq_15, Core.evE.eq_1, Core.evE.eq_2, Core.evE.eq_3, Core.evE.eq_4, Core.evE.eq_5, Core.evE.eq_6, Core.evE.eq_7, Core.evE.eq_8, Core.evE.eq_9, Core.evE.eq_10, Core.evE.eq_11, Core.evE.eq_12, Core.evE.eq_13, Core.evE.eq_14, Core.evE.eq_15, Core.evE.eq_16, Core.evEs, Core.evRs, Core.evC, Core.evI, Core.evT, Core.evV, Core.evHolds, Core.setAll, Core.Out.bind, Core.Out.ofO, Core.hold, Core.frz, Core.peek, Core.mk, Core.isLst, Core.isB, Core.do1, Core.do2, Core.doSl, Core.partD, Core.dupFree, Core.bors, Core.isOwn, Core.passArgs, Core.backArgs, Core.ctx_callf, Core.ctx_io, Core.ctx_turns, Core.finish, Core.handBack, Core.outPs, Core.entry, Core.bindT, Core.bindTs, Core.wipe, Core.back, Core.walkItems, Core.bound, Core.boolsOf, qs, pyEq_bool]
  have hC : evSs C8 (l22_9.drop 8) [s0, .o [.int a2, .int b2], t2, .v (.tuple X), .v (.list rr), .v (.list ll), .no, .v (.tuple tt), .no, .no, .v (.bool (sureB ms)), t11, t12, t13, t14, s15, s16, s17, s18] = .ok .next [s0, .o [.int a3, .int b3], t2, .v (.tuple X), .v (.list rr), .v (.list ll), .no, .v (.tuple tt), .no, .no, .v (.bool (sureB ms)), .v (.int (y : Int)), .v ins, t13', t14', s15, s16, s17, s18] := by
    simp [-List.map_map, Core.pyEq_int, Core.pyLt_int, Core.evSs, Core.evS.eq_1, Core.evS.eq_2, Core.evS.eq_3, Core.evS.eq_4, Core.evS.eq_5, Core.evS.eq_6, Core.evS.eq_7, Core.evS.eq_10, Core.evS.eq_11, Core.evS.eq_12, Core.evS.eq_13, Core.evS.eq_14, Core.evS.eq_15, Core.evE.eq_1, Core.evE.eq_2, Core.evE.eq_3, Core.evE.eq_4, Core.evE.eq_5, Core.evE.eq_6, Core.evE.eq_7, Core.evE.eq_8, Core.evE.eq_9, Core.evE.eq_10, Core.evE.eq_11, Core.evE.eq_12, Core.evE.eq_13, Core.evE.eq_14, Core.evE.eq_15, Core.evE.eq_16, Core.evEs, Core.evRs, Core.evC, Core.evI, Core.evT, Core.evV, Core.evHolds, Core.setAll, Core.Out.bind, Core.Out.ofO, Core.hold, Core.frz, Core.peek, Core.mk, Core.isLst, Core.isB, Core.do1, Core.do2, Core.doSl, Core.partD, Core.dupFree, Core.bors, Core.isOwn, Core.passArgs, Core.backArgs, Core.ctx_callf, Core.ctx_io, Core.ctx_turns, Core.finish, Core.handBack, Core.outPs, Core.entry, Core.bindT, Core.bindTs, Core.wipe, Core.back, Core.walkItems, Core.bound, Core.boolsOf, l22_9, q6, hnil, hI]
  have hb : l22_9 = l22_9.take 7 ++ ((l22_9.drop 7).take 1 ++ l22_9.drop 8) := rfl
  rw [hb, evSs_app _ _ hA, evSs_app _ _ hS, hC]
end C65
end Core
end

section
set_option linter.all false
set_option autoImplicit false
set_option maxRecDepth 100000
set_option maxHeartbeats 4000000
namespace Core
open PySem PySem.W
namespace C65
open B
/-! ### computed lots -/
def lotC (ms : Mv) (T s : Nat) : List Nat := (List.range ms.length).filter fun x => has (G ms s (T + 1)) x
theorem lot_C {ms : Mv} {T s : Nat} (hT : 1 ≤ T) (h : N ms s T = []) : lot ms s = lotC ms T s := by
  unfold lot lotC
  apply List.filter_congr
  intro x _
  rw [Bool.eq_iff_iff, rchB_iff, has_iff h hT]
def trapsC (ms : Mv) (T : Nat) : List (List Int) := ssetL lexL (((List.range ms.length).map fun s => toI (lotC ms T s)).filter fun l => l.all fun i => decide (toI (lotC ms T i.toNat) = l))
theorem traps_C {ms : Mv} {T : Nat} (hT : 1 ≤ T) (h : ∀ s, s < ms.length → N ms s T = []) : trapsL ms = trapsC ms T := by
  have hl : lots ms = (List.range ms.length).map fun s => toI (lotC ms T s) := by
    unfold lots
    apply List.map_congr_left
    intro s hs
    rw [lot_C hT (h s (List.mem_range.mp hs))]
  unfold trapsL trapsC
  rw [← hl]
  congr 1
  apply List.filter_congr
  intro l hl
  obtain ⟨s, hs, rfl⟩ := List.mem_map.mp hl
  unfold trapB
  rw [Bool.eq_iff_iff, List.all_eq_true, List.all_eq_true]
  have e : ∀ i ∈ toI (lot ms s), lotI ms i = toI (lotC ms T i.toNat) := fun i hi => by
    obtain ⟨x, hx, rfl⟩ := List.mem_map.mp hi
    rw [lotI_nat, lot_C hT (h x (lot_mem_lt hx))]
    simp
  exact ⟨fun k i hi => by rw [← e i hi]; exact k i hi, fun k i hi => by rw [e i hi]; exact k i hi⟩
theorem all_lt {n : Nat} {p : Nat → Prop} [DecidablePred p] (h : (List.range n).all (fun s => decide (p s)) = true) : ∀ s, s < n → p s := fun s hs => of_decide_eq_true (List.all_eq_true.mp h s (List.mem_range.mpr hs))
def ringMs : Mv := [[(0, 1), (3, 2)], [(3, 3)], [(0, 3), (5, 0)], []]
def bothMs : Mv := [[(1, 1)], [(2, 0)]]
def oneMs : Mv := [[(0, 0)]]
def forkMs : Mv := [[(0, 1), (1, 2)], [], []]
theorem ring_ok : MovesOk ringMs := by
  simp [MovesOk, ringMs, RowOk, asc, MetOk, metAll, metRow]
  constructor <;> (intros; omega)
theorem both_ok : MovesOk bothMs := by simp [MovesOk, bothMs, RowOk, asc, MetOk, metAll, metRow]
theorem one_ok : MovesOk oneMs := by simp [MovesOk, oneMs, RowOk, asc, MetOk, metAll, metRow]
theorem fork_ok : MovesOk forkMs := by
  simp [MovesOk, forkMs, RowOk, asc, MetOk, metAll, metRow]
  intros; omega
theorem ring_traps : trapsL ringMs = [[3]] := by
  rw [traps_C (T := 5) (by omega) (all_lt (by kernel_rfl))]
  kernel_rfl
theorem both_traps : trapsL bothMs = [[0, 1]] := by
  rw [traps_C (T := 5) (by omega) (all_lt (by kernel_rfl))]
  kernel_rfl
theorem one_traps : trapsL oneMs = [[0]] := by
  rw [traps_C (T := 5) (by omega) (all_lt (by kernel_rfl))]
  kernel_rfl
theorem fork_traps : trapsL forkMs = [[1], [2]] := by
  rw [traps_C (T := 5) (by omega) (all_lt (by kernel_rfl))]
  kernel_rfl
theorem ring_lot : lot ringMs 1 = [1, 3] := by
  rw [lot_C (T := 5) (by omega) (by kernel_rfl)]
  kernel_rfl
theorem tailA (s0 s1 s2 s3 s4 s5 s7 s10 s11 s12 s13 s14 s15 s16 : Sl) : evSs C8 ((b22.drop 2).take 2) [s0, s1, s2, s3, s4, s5, .no, s7, .no, .no, s10, s11, s12, s13, s14, s15, s16, .no, .no] = .ok .next [s0, s1, s2, s3, s4, s5, .no, s7, .no, .no, s10, s11, s12, s13, s14, .v (encM ringMs), .v (encM bothMs), .no, .no] := by
  kernel_rfl
theorem tailB (s0 s1 s2 s3 s4 s5 s7 s10 s11 s12 s13 s14 : Sl) : evSs C8 ((b22.drop 4).take 3) [s0, s1, s2, s3, s4, s5, .no, s7, .no, .no, s10, s11, s12, s13, s14, .v (encM ringMs), .v (encM bothMs), .no, .no] = .ok .next [s0, s1, s2, s3, s4, s5, .no, s7, .no, .no, s10, s11, s12, s13, s14, .v (encM ringMs), .v (encM bothMs), .no, .no] := by
  have r13 : callK P 8 13 [.v (encM ringMs)] = .ok (.tuple ((trapsL ringMs).map encT)) false [.v (encM ringMs)] := f13 3 ring_ok (by decide)
  have r14 : callK P 8 14 [.v (encM ringMs), .v (.int 1)] = .ok (encN (lot ringMs 1)) false [.v (encM ringMs), .v (.int 1)] := f14 2 ring_ok (s := 1) (by decide)
  have r15 : callK P 8 15 [.v (encM ringMs)] = .ok (.bool (sureB ringMs)) false [.v (encM ringMs)] := f15 3 ring_ok (by decide)
  have b15 : callK P 8 15 [.v (encM bothMs)] = .ok (.bool (sureB bothMs)) false [.v (encM bothMs)] := f15 3 both_ok (by decide)
  have b13 : callK P 8 13 [.v (encM bothMs)] = .ok (.tuple ((trapsL bothMs).map encT)) false [.v (encM bothMs)] := f13 3 both_ok (by decide)
  have o13 : callK P 8 13 [.v (.tuple [.tuple [.tuple [.int 0, .int 0]]])] = .ok (.tuple ((trapsL oneMs).map encT)) false [.v (.tuple [.tuple [.tuple [.int 0, .int 0]]])] := f13 3 one_ok (by decide)
  have k13 : callK P 8 13 [.v (.tuple [.tuple [.tuple [.int 0, .int 1], .tuple [.int 1, .int 2]], .tuple [], .tuple []])] = .ok (.tuple ((trapsL forkMs).map encT)) false [.v (.tuple [.tuple [.tuple [.int 0, .int 1], .tuple [.int 1, .int 2]], .tuple [], .tuple []])] := f13 3 fork_ok (by decide)
  have rs : sureB ringMs = true := by unfold sureB; rw [ring_traps]; rfl
  have bs : sureB bothMs = false := by unfold sureB; rw [both_traps]; rfl
  rw [ring_traps] at r13
  rw [ring_lot] at r14
  rw [rs] at r15
  rw [bs] at b15
  rw [both_traps] at b13
  rw [one_traps] at o13
  rw [fork_traps] at k13
  have p1 : pyEq (.tuple [.tuple [.int 3]]) (.tuple [.tuple [.int 3]]) = some true := pyEq_TT [[3]] [[3]]
  have p2 : pyEq (.tuple [.int 1, .int 3]) (.tuple [.int 1, .int 3]) = some true := pyEq_T [1, 3] [1, 3]
  have p3 : pyEq (.tuple [.tuple [.int 0, .int 1]]) (.tuple [.tuple [.int 0, .int 1]]) = some true := pyEq_TT [[0, 1]] [[0, 1]]
  have p4 : pyEq (.tuple [.tuple [.int 0]]) (.tuple [.tuple [.int 0]]) = some true := pyEq_TT [[0]] [[0]]
  have p5 : pyEq (.tuple [.tuple [.int 1], .tuple [.int 2]]) (.tuple [.tuple [.int 1], .tuple [.int 2]]) = some true := pyEq_TT [[1], [2]] [[1], [2]]
  generalize encM ringMs = rd at *
  generalize encM bothMs = bd at *
  simp [-List.map_map, Core.pyEq_int, Core.pyLt_int, Core.evSs, Core.evS.eq_1, Core.evS.eq_2, Core.evS.eq_3, Core.evS.eq_4, Core.evS.eq_5, Core.evS.eq_6, Core.evS.eq_7, Core.evS.eq_10, Core.evS.eq_11, Core.evS.eq_12, Core.evS.eq_13, Core.evS.eq_14, Core.evS.eq_15, Core.evE.eq_1, Core.evE.eq_2, Core.evE.eq_3, Core.evE.eq_4, Core.evE.eq_5, Core.evE.eq_6, Core.evE.eq_7, Core.evE.eq_8, Core.evE.eq_9, Core.evE.eq_10, Core.evE.eq_11, Core.evE.eq_12, Core.evE.eq_13, Core.evE.eq_14, Core.evE.eq_15, Core.evE.eq_16, Core.evEs, Core.evRs, Core.evC, Core.evI, Core.evT, Core.evV, Core.evHolds, Core.setAll, Core.Out.bind, Core.Out.ofO, Core.hold, Core.frz, Core.peek, Core.mk, Core.isLst, Core.isB, Core.do1, Core.do2, Core.doSl, Core.partD, Core.dupFree, Core.bors, Core.isOwn, Core.passArgs, Core.backArgs, Core.ctx_callf, Core.ctx_io, Core.ctx_turns, Core.finish, Core.handBack, Core.outPs, Core.entry, Core.bindT, Core.bindTs, Core.wipe, Core.back, Core.walkItems, Core.bound, Core.boolsOf, b22, r13, r14, r15, b15, b13, o13, k13, p1, p2, p3, p4, p5, isConst, encT, encN]
theorem tailC (s0 s1 s2 s3 s4 s5 s7 s10 s11 s12 s13 s14 s16 : Sl) : retsTrue (evSs C8 (b22.drop 7) [s0, s1, s2, s3, s4, s5, .no, s7, .no, .no, s10, s11, s12, s13, s14, .v (encM ringMs), s16, .no, .no]) = true := by
  kernel_rfl
theorem tail (s0 s1 s2 s3 s4 s5 s7 s10 s11 s12 s13 s14 : Sl) : retsTrue (evSs C8 (b22.drop 2) [s0, s1, s2, s3, s4, s5, .no, s7, .no, .no, s10, s11, s12, s13, s14, .no, .no, .no, .no]) = true := by
  have hb : b22.drop 2 = (b22.drop 2).take 2 ++ ((b22.drop 4).take 3 ++ b22.drop 7) := by kernel_rfl
  rw [hb, evSs_app _ _ (tailA s0 s1 s2 s3 s4 s5 s7 s10 s11 s12 s13 s14 .no .no), evSs_app _ _ (tailB s0 s1 s2 s3 s4 s5 s7 s10 s11 s12 s13 s14)]
  exact tailC s0 s1 s2 s3 s4 s5 s7 s10 s11 s12 s13 s14 _
theorem law_true (ns : List Int) (h : ns.length ≤ 1000) : ∃ ps, callK P 9 22 [.v (.list (ns.map PyData.int))] = .ok (.bool true) false ps := by
  rw [callK_eq (cf := cf22) rfl rfl]
  obtain ⟨a, b, e14⟩ := f16 7 ns h
  simp only [Nat.reduceAdd] at e14
  obtain ⟨env1, e1, a1, b1, t2, t3, t4, t5, t7, t10, t11, t12, t13, t14, rfl⟩ := forGo_inv (tg := .nm 2) (body := evSs C8 l22_9) (fun i e => ∃ (a' b' : Int) (t2 t3 t4 t5 t7 t10 t11 t12 t13 t14 : Sl), e = [.v (.list (ns.map PyData.int)), .o [.int a', .int b'], t2, t3, t4, t5, .no, t7, .no, .no, t10, t11, t12, t13, t14, .no, .no, .no, .no]) (rngD 0 3) 0 (fun j x hx env ⟨a', b', t2, t3, t4, t5, t7, t10, t11, t12, t13, t14, g⟩ => by
    subst g
    obtain ⟨a2, b2, u3, u4, u5, u7, u10, u11, u12, u13, u14, e⟩ := turn (.v (.list (ns.map PyData.int))) (.v x) t3 t4 t5 t7 t10 t11 t12 t13 t14 .no .no .no .no a' b'
    exact ⟨_, _, rfl, e, a2, b2, .v x, u3, u4, u5, u7, u10, u11, u12, u13, u14, rfl⟩) [.v (.list (ns.map PyData.int)), .o [.int a, .int b], .no, .no, .no, .no, .no, .no, .no, .no, .no, .no, .no, .no, .no, .no, .no, .no, .no] ⟨a, b, .no, .no, .no, .no, .no, .no, .no, .no, .no, .no, rfl⟩
  obtain ⟨env2, e2⟩ := retsTrue_ok (tail (.v (.list (ns.map PyData.int))) (.o [.int a1, .int b1]) t2 t3 t4 t5 t7 t10 t11 t12 t13 t14)
  refine ⟨outPs cf22.io cf22.np 0 env2, ?_⟩
  have hb : cf22.body = .asg 1 (.call 16 [(.var 0)]) :: .for_ (.nm 2) (.rng (.cst (.int 3))) l22_9 :: b22.drop 2 := rfl
  have h1 : evS C8 (.asg 1 (.call 16 [(.var 0)])) (entry cf22 [.v (.list (ns.map PyData.int))]) = .ok .next [.v (.list (ns.map PyData.int)), .o [.int a, .int b], .no, .no, .no, .no, .no, .no, .no, .no, .no, .no, .no, .no, .no, .no, .no, .no, .no] := by
    have he : entry cf22 [.v (.list (ns.map PyData.int))] = [.v (.list (ns.map PyData.int)), .no, .no, .no, .no, .no, .no, .no, .no, .no, .no, .no, .no, .no, .no, .no, .no, .no, .no] := rfl
    rw [he]
    simp [-List.map_map, Core.pyEq_int, Core.pyLt_int, Core.evSs, Core.evS.eq_1, Core.evS.eq_2, Core.evS.eq_3, Core.evS.eq_4, Core.evS.eq_5, Core.evS.eq_6, Core.evS.eq_7, Core.evS.eq_10, Core.evS.eq_11, Core.evS.eq_12, Core.evS.eq_13, Core.evS.eq_14, Core.evS.eq_15, Core.evE.eq_1, Core.evE.eq_2, Core.evE.eq_3, Core.evE.eq_4, Core.evE.eq_5, Core.evE.eq_6, Core.evE.eq_7, Core.evE.eq_8, Core.evE.eq_9, Core.evE.eq_10, Core.evE.eq_11, Core.evE.eq_12, Core.evE.eq_13, Core.evE.eq_14, Core.evE.eq_15, Core.evE.eq_16, Core.evEs, Core.evRs, Core.evC, Core.evI, Core.evT, Core.evV, Core.evHolds, Core.setAll, Core.Out.bind, Core.Out.ofO, Core.hold, Core.frz, Core.peek, Core.mk, Core.isLst, Core.isB, Core.do1, Core.do2, Core.doSl, Core.partD, Core.dupFree, Core.bors, Core.isOwn, Core.passArgs, Core.backArgs, Core.ctx_callf, Core.ctx_io, Core.ctx_turns, Core.finish, Core.handBack, Core.outPs, Core.entry, Core.bindT, Core.bindTs, Core.wipe, Core.back, Core.walkItems, Core.bound, Core.boolsOf, e14]
  have h2 : evS C8 (.for_ (.nm 2) (.rng (.cst (.int 3))) l22_9) [.v (.list (ns.map PyData.int)), .o [.int a, .int b], .no, .no, .no, .no, .no, .no, .no, .no, .no, .no, .no, .no, .no, .no, .no, .no, .no] = .ok .next [.v (.list (ns.map PyData.int)), .o [.int a1, .int b1], t2, t3, t4, t5, .no, t7, .no, .no, t10, t11, t12, t13, t14, .no, .no, .no, .no] := by
    rw [evS]
    have hi : ∀ env, evI C8 (.rng (.cst (.int 3))) env = .ok (rngD 0 3) env := fun env => rfl
    rw [hi]
    exact e1
  rw [hb, evSs, h1]
  dsimp only [Out.bind]
  rw [evSs, h2]
  dsimp only [Out.bind]
  rw [e2]
  rfl
end C65
end Core
end

section
set_option maxRecDepth 100000
namespace Core.T_k65
open PySem Core
def fns : List FnE := [
  ⟨11, ["is_whole"], ["value", "low", "high"], [0, 1, 2], false⟩,
  ⟨12, ["is_tuple_of"], ["value", "low", "high"], [0, 1, 2], false⟩,
  ⟨13, ["is_ascending"], ["values", "one", "other"], [0], false⟩,
  ⟨17, ["fits_pairs"], ["value", "many", "pair"], [0, 1], false⟩,
  ⟨18, ["are_met"], ["moves", "many", "at", "pairs", "line", "index"], [0], false⟩,
  ⟨19, ["fits_moves"], ["value", "pairs"], [0], false⟩,
  ⟨20, ["rest_states"], ["moves", "at", "pairs"], [0], false⟩,
  ⟨21, ["orders_to"], ["moves", "index", "found", "line", "fresh", "here", "own", "there"], [0, 1], false⟩,
  ⟨22, ["need_moves"], ["value"], [0], false⟩,
  ⟨23, ["need_state"], ["moves", "index"], [0, 1], false⟩,
  ⟨24, ["rests_of"], ["moves"], [0], false⟩,
  ⟨26, ["reached"], ["moves", "index"], [0, 1], false⟩,
  ⟨27, ["found_traps"], ["moves", "lots", "at", "lot"], [0], false⟩,
  ⟨28, ["traps_of"], ["moves"], [0], false⟩,
  ⟨29, ["reached_from"], ["moves", "index"], [0, 1], false⟩,
  ⟨30, ["is_sure"], ["moves", "traps"], [0], false⟩,
  ⟨32, ["_law_cup"], ["script", "cell"], [0], false⟩,
  ⟨33, ["_law_roll"], ["cup", "many", "found", "deep"], [0, 1], false⟩,
  ⟨34, ["_law_some"], ["cup", "things"], [0, 1], false⟩,
  ⟨35, ["_law_moves"], ["cup", "many", "goes", "at", "lines", "turn", "low", "line", "order", "found", "there"], [0, 1], false⟩,
  ⟨36, ["_law_reached"], ["moves", "index", "found", "turn", "at", "line", "there"], [0, 1], false⟩,
  ⟨37, ["_law_error"], ["call"], [0], false⟩,
  ⟨38, ["law"], ["script", "cup", "turn", "moves", "many", "lots", "at", "due", "lot", "trap", "sure", "here", "inside", "step", "now", "ring", "both", "words", "odd"], [0], true⟩]
def cons : List (Str × D) := [("STATES", (.int (300))), ("LINES", (.int (16)))]
def clss : List (Str × Nat) := [("RouteError", 0), ("InvalidNumber", 1), ("InvalidSettings", 2), ("InvalidMessage", 3), ("InvalidHeld", 5), ("InvalidOrder", 6), ("InvalidGround", 7), ("InvalidMoves", 8)]
def gds : List Str := ["_law_error"]
def tab : Tab := ⟨fns, cons, clss, gds⟩
def above : List (List Nat) := [[0], [1, 0], [2, 0], [3, 0], [4, 0], [5, 0], [6, 0], [7, 0], [8, 0]]
def subB (a b : Nat) : Bool := (above.getD a []).contains b
def guards : List (Nat × Guard) := [(21, ⟨[(4, .none), (2, (.str "settings")), (7, (.str "ground")), (5, (.str "held")), (6, (.str "order")), (8, (.str "moves")), (1, (.str "number")), (3, (.str "message")), (0, (.str "other"))], (.str "")⟩)]
def body : List Stmt := PySem.Challenge.pw_routeproof_k65_whole_traps.main.body
def cfs : List (Option CF) := fns.map (compF tab body)
def prog : Prog := ⟨cfs.map fun o => o.getD ⟨0, 0, [], [.brk]⟩, subB, guards, 1000000⟩
def lawIx : Nat := 22
end Core.T_k65
end

section
set_option Elab.async false
set_option linter.all false
set_option maxRecDepth 100000
set_option maxHeartbeats 0
namespace Core.E65
open PySem PySem.Spec PyProof.Rows L2 Core
abbrev R : PySem.W.OpenRow := PySem.W.OpenLaw.row PySem.Challenge.rw_routeproof_k65_whole_traps
def clsN : List PySem.Str := [("RouteError" : PySem.Str), ("InvalidNumber" : PySem.Str), ("InvalidSettings" : PySem.Str), ("InvalidMessage" : PySem.Str), ("TooMany" : PySem.Str), ("InvalidHeld" : PySem.Str), ("InvalidOrder" : PySem.Str), ("InvalidGround" : PySem.Str), ("InvalidMoves" : PySem.Str)]
abbrev fn : List He.DefD := fnL T_k65.body T_k65.tab
abbrev fa : List He.Fa := faL T_k65.tab clsN C65.P.sub
abbrev hk : PySem.W.Hook := hookT 4 "law" fa fn
def ob (s : PySem.W.SharedT) : He.AlD × Bool := obsT 4 "law" fa fn (HandSHeadRun.getT s)
theorem ob_eq (s : PySem.W.SharedT) : ob s = hk.obs s.abs := obsT_eq (HandSHeadRun.getT_eq s)
def lo0 : List PySem.Str := [("RouteError" : PySem.Str), ("InvalidNumber" : PySem.Str), ("InvalidSettings" : PySem.Str), ("InvalidMessage" : PySem.Str), ("TooMany" : PySem.Str), ("InvalidHeld" : PySem.Str), ("InvalidOrder" : PySem.Str), ("InvalidGround" : PySem.Str), ("InvalidMoves" : PySem.Str), ("is_whole" : PySem.Str)]
def lo1 : List PySem.Str := [("is_tuple_of" : PySem.Str), ("is_ascending" : PySem.Str), ("STATES" : PySem.Str), ("LINES" : PySem.Str), ("fits_pairs" : PySem.Str), ("are_met" : PySem.Str), ("fits_moves" : PySem.Str), ("rest_states" : PySem.Str), ("orders_to" : PySem.Str), ("need_moves" : PySem.Str)]
def lo2 : List PySem.Str := [("need_state" : PySem.Str), ("rests_of" : PySem.Str), ("reached" : PySem.Str), ("found_traps" : PySem.Str), ("traps_of" : PySem.Str), ("reached_from" : PySem.Str), ("is_sure" : PySem.Str), ("_law_cup" : PySem.Str), ("_law_roll" : PySem.Str), ("_law_some" : PySem.Str)]
def lo3 : List PySem.Str := [("_law_moves" : PySem.Str), ("_law_reached" : PySem.Str), ("_law_error" : PySem.Str)]
def loose : List PySem.Str := lo0 ++ lo1 ++ lo2 ++ lo3
theorem run (w : World) : HandSHeadRun.RunEq R (PySem.W.view R.prog [38]) hk ob 4100 loose w := by
  intro os
  kernel_rfl
theorem hP : C65.P.fns = (T_k65.tab.fns.map (compF T_k65.tab T_k65.body)).map fun o => o.getD ⟨0, 0, [], [.brk]⟩ := by kernel_rfl
theorem hfe : T_k65.tab.fns.all (feB T_k65.body T_k65.tab) = true := by kernel_rfl
theorem hb : BindsAll T_k65.body T_k65.tab.fns := ⟨BindOk.c3 (x := "value") (y := "low") (z := "high") (by kernel_rfl) (by intros; kernel_rfl), BindOk.c3 (x := "value") (y := "low") (z := "high") (by kernel_rfl) (by intros; kernel_rfl), BindOk.c1 (x := "values") (by kernel_rfl) (by intros; kernel_rfl), BindOk.c2 (x := "value") (y := "many") (by kernel_rfl) (by intros; kernel_rfl), BindOk.c1 (x := "moves") (by kernel_rfl) (by intros; kernel_rfl), BindOk.c1 (x := "value") (by kernel_rfl) (by intros; kernel_rfl), BindOk.c1 (x := "moves") (by kernel_rfl) (by intros; kernel_rfl), BindOk.c2 (x := "moves") (y := "index") (by kernel_rfl) (by intros; kernel_rfl), BindOk.c1 (x := "value") (by kernel_rfl) (by intros; kernel_rfl), BindOk.c2 (x := "moves") (y := "index") (by kernel_rfl) (by intros; kernel_rfl), BindOk.c1 (x := "moves") (by kernel_rfl) (by intros; kernel_rfl), BindOk.c2 (x := "moves") (y := "index") (by kernel_rfl) (by intros; kernel_rfl), BindOk.c1 (x := "moves") (by kernel_rfl) (by intros; kernel_rfl), BindOk.c1 (x := "moves") (by kernel_rfl) (by intros; kernel_rfl), BindOk.c2 (x := "moves") (y := "index") (by kernel_rfl) (by intros; kernel_rfl), BindOk.c1 (x := "moves") (by kernel_rfl) (by intros; kernel_rfl), BindOk.c1 (x := "script") (by kernel_rfl) (by intros; kernel_rfl), BindOk.c2 (x := "cup") (y := "many") (by kernel_rfl) (by intros; kernel_rfl), BindOk.c2 (x := "cup") (y := "things") (by kernel_rfl) (by intros; kernel_rfl), BindOk.c2 (x := "cup") (y := "many") (by kernel_rfl) (by intros; kernel_rfl), BindOk.c2 (x := "moves") (y := "index") (by kernel_rfl) (by intros; kernel_rfl), BindOk.c1 (x := "call") (by kernel_rfl) (by intros; kernel_rfl), BindOk.c1 (x := "script") (by kernel_rfl) (by intros; kernel_rfl), trivial⟩
theorem hcon : T_k65.tab.cons.all (fun p => match p.2 with | .int _ => true | _ => false) = true := by kernel_rfl
theorem hcls : T_k65.tab.clss.all (fun p => decide (clsN[p.2]? = some p.1)) = true := by kernel_rfl
theorem hlam : T_k65.tab.fns.all (fun fe => !fe.lam || decide (fe.names = [("law" : Str)])) = true := by kernel_rfl
theorem hsub (c h : Nat) (e : C65.P.sub c h = true) : c < clsN.length := by
  by_cases hc : c < 9
  · exact hc
  · exfalso
    have e : (C65.above.getD c []).contains h = true := e
    rw [List.getD_eq_getElem?_getD, List.getElem?_eq_none (by show 9 ≤ c; omega)] at e
    cases e
theorem hgrd {l : PySem.W.OpenLaw} {w : World} {K : PySem.W.Frag} {h : Heap} {mg : Str → Option Value} (X : K.In h) (G : h.Ns mainGlobals mg) (c : He.SaysD fa fn K) (base : Heap) :
    ∀ (x : Str) (f : Nat), (namesFrom 0 T_k65.tab.fns).lookup x = some f → T_k65.tab.gds.contains x = true → ∀ X' : L2.Cx, X'.prog = l.prog → X'.w = w → X'.K = K → X'.mg = mg → X'.base = base → GdFact X' x C65.P.sub (clA K clsN) (C65.P.guard f) := by
  intro x f h1 h2 X' _ _ h3 h4 _
  have hx : x = "_law_error" := by
    have : T_k65.tab.gds = [("_law_error" : Str)] := rfl
    rw [this] at h2
    simpa using h2
  subst hx
  have hf : (namesFrom 0 T_k65.tab.fns).lookup ("_law_error" : Str) = some 21 := by kernel_rfl
  rw [hf] at h1
  cases h1
  exact grd_ok (els := "") (fe := ⟨37, [("_law_error" : Str)], [("call" : Str)], [0], false⟩) X G c hb hfe (by kernel_rfl) rfl rfl rfl (by kernel_rfl) (by kernel_rfl) (by kernel_rfl) rfl (by decide) hsub (by kernel_rfl) h3 h4
end Core.E65
open PySem PySem.W PySem.Calls PyProof.Rows Core Core.E65 in
theorem PySem.Challenge.cw_routeproof_k65_whole_traps_holds : PySem.Challenge.rw_routeproof_k65_whole_traps.Holds := by
  w_on; o_law
  refine HandSHeadRun.head_any (r := E65.R) (q := view E65.R.prog [38]) (H := E65.hk) (ob := E65.ob) (M := 4100) (loose := E65.loose) (d := HandSHeadRun.topDef E65.R.prog 38) (kwd := []) E65.ob_eq
    (by kernel_rfl) (fun s => by kernel_rfl) E65.run (by kernel_rfl) (by kernel_rfl) (by kernel_rfl) (by rfl) (by first | assumption | decide +kernel) (by decide +kernel) ⟨rfl, rfl, rfl, rfl, rfl, by decide +kernel⟩ ?hw ?hc
  case hw => w_witness2
  case hc =>
    refine walk_tab (l := PySem.Challenge.rw_routeproof_k65_whole_traps) (n := 63) (k := 3 * 9) (x := "script") (CX := fun w => L2.CX PySem.Challenge.rw_routeproof_k65_whole_traps.prog w) rfl (by decide) (by kernel_rfl) ⟨rfl, by decide, by decide⟩ (by kernel_rfl) ?F (fun w H s e s' z => cx_no z)
    intro w mg fa h Y G hmg0 ht
    obtain ⟨K, KX, c, nt⟩ := Y
    have hmg : mg ("law" : PySem.Str) = some (.ref fa) := by
      have e : (HandSHeadRun.topDef E65.R.prog 38).name = ("law" : PySem.Str) := by kernel_rfl
      rw [← e]
      exact hmg0
    exact ⟨K, KX, law_at (L := 9) (lawIx := 22) (fe := ⟨38, [("law" : PySem.Str)], [("script" : PySem.Str), ("cup" : PySem.Str), ("turn" : PySem.Str), ("moves" : PySem.Str), ("many" : PySem.Str), ("lots" : PySem.Str), ("at" : PySem.Str), ("due" : PySem.Str), ("lot" : PySem.Str), ("trap" : PySem.Str), ("sure" : PySem.Str), ("here" : PySem.Str), ("inside" : PySem.Str), ("step" : PySem.Str), ("now" : PySem.Str), ("ring" : PySem.Str), ("both" : PySem.Str), ("words" : PySem.Str), ("odd" : PySem.Str)], [0], true⟩) KX G c nt hmg ht hP hfe hb hcon hcls hlam (fun base _ => hgrd KX G c base) (by kernel_rfl) rfl (by kernel_rfl) (by kernel_rfl) (by decide) fun ns hn => C65.law_true ns (by omega)⟩
end

