import PyProof.Rows.All
import Wide.All
import OpenK.AllK
import Wide.FinOn
import KE.SortData
import KE.KDictKeyed
import HandS.ForMost
import HandS.ForExc
import HandS.TupAny
import HandS.TupLe
import HandS.Deep
import KE.KDictPairs
import HandS.Style
import KE.DataMinMax
import KE.SortLaws
import HandS.IsInst
import HandS.Conv
import HandS.SetFor
import HandS.TupLen
import KE.KDictSum
import KE.KDictCopyH
import KE.KDictWalk
import HandS.Sort
import PyProof.Rows.SetFrom
import HandS.Zip
import HandS.Walk
import KE.GoesMore
import HandS.WordsExc
import PySem.Challenge.RW_twelveways_k06_whole_square_runs
set_option Elab.async false
set_option linter.all false
set_option maxRecDepth 100000
/-! A small pure language and its evaluator. -/
namespace Tw
open PySem

/-- how a list (or dict) that an expression gives is held: nobody may change it; a name of the frame owns it; it is new -/
inductive Fl where
  | c | b | f
  deriving DecidableEq
/-- what a slot of a frame holds: data; an own list; an own dict; the cell; the script -/
inductive Sl where
  | v (d : PyData)
  | o (xs : List PyData)
  | od (kvs : List (PyData × PyData))
  | cell
  | scr (ns : List Int)
abbrev Ev := List (Option Sl)
/-- the cell's content: the script, the numbers behind it -/
abbrev Mu := Option (List Int × List Int)
/-- an argument -/
inductive Vl where
  | d (x : PyData)
  | cell
inductive Out (α : Type) where
  | ok (a : α) (m : Mu)
  | ex (c : Str) (fs : List (Str × PyData)) (m : Mu)
  | bad
def Out.bind {α β : Type} (x : Out α) (f : α → Mu → Out β) : Out β :=
  match x with
  | .ok a m => f a m
  | .ex c fs m => .ex c fs m
  | .bad => .bad
@[simp] theorem Out.bind_ok {α β : Type} (a : α) (m : Mu) (f : α → Mu → Out β) : Out.bind (.ok a m) f = f a m := rfl
@[simp] theorem Out.bind_ex {α β : Type} (c : Str) (fs : List (Str × PyData)) (m : Mu) (f : α → Mu → Out β) : Out.bind (.ex c fs m) f = .ex c fs m := rfl
@[simp] theorem Out.bind_bad {α β : Type} (f : α → Mu → Out β) : Out.bind (.bad : Out α) f = .bad := rfl
/-- an exception is not followed -/
def Out.noex {α : Type} : Out α → Out α
  | .ok a m => .ok a m
  | _ => .bad
def Out.of {α : Type} (x : Option α) (m : Mu) : Out α :=
  match x with
  | some a => .ok a m
  | none => .bad
@[simp] theorem Out.of_some {α : Type} (a : α) (m : Mu) : Out.of (some a) m = .ok a m := rfl
@[simp] theorem Out.of_none {α : Type} (m : Mu) : Out.of (none : Option α) m = .bad := rfl

/-! ### data -/
mutual
def beqD : PyData → PyData → Bool
  | .none, .none => true
  | .bool a, .bool b => a == b
  | .int a, .int b => a == b
  | .str a, .str b => decide (a = b)
  | .list a, .list b => beqDs a b
  | .tuple a, .tuple b => beqDs a b
  | .dict a, .dict b => beqKs a b
  | _, _ => false
def beqDs : List PyData → List PyData → Bool
  | [], [] => true
  | x :: xs, y :: ys => beqD x y && beqDs xs ys
  | _, _ => false
def beqKs : List (PyData × PyData) → List (PyData × PyData) → Bool
  | [], [] => true
  | (x, u) :: xs, (y, v) :: ys => beqD x y && (beqD u v && beqKs xs ys)
  | _, _ => false
end
mutual
theorem beqD_iff : ∀ a b : PyData, beqD a b = true ↔ a = b
  | .none, b => by cases b <;> simp [beqD]
  | .bool _, b => by cases b <;> simp [beqD]
  | .int _, b => by cases b <;> simp [beqD]
  | .str _, b => by cases b <;> simp [beqD]
  | .list xs, b => by cases b <;> simp [beqD, beqDs_iff xs]
  | .tuple xs, b => by cases b <;> simp [beqD, beqDs_iff xs]
  | .dict xs, b => by cases b <;> simp [beqD, beqKs_iff xs]
theorem beqDs_iff : ∀ a b : List PyData, beqDs a b = true ↔ a = b
  | [], b => by cases b <;> simp [beqDs]
  | x :: xs, b => by cases b <;> simp [beqDs, beqD_iff x, beqDs_iff xs]
theorem beqKs_iff : ∀ a b : List (PyData × PyData), beqKs a b = true ↔ a = b
  | [], b => by cases b <;> simp [beqKs]
  | (x, u) :: xs, b => by
    cases b with
    | nil => simp [beqKs]
    | cons y ys => obtain ⟨y, v⟩ := y; simp [beqKs, beqD_iff x, beqD_iff u, beqKs_iff xs, and_assoc]
end
instance : DecidableEq PyData := fun a b => if h : beqD a b = true then isTrue ((beqD_iff a b).mp h) else isFalse fun e => h ((beqD_iff a b).mpr e)

mutual
/-- no bool within -/
def noB : PyData → Bool
  | .bool _ => false
  | .list xs => noBs xs
  | .tuple xs => noBs xs
  | _ => true
def noBs : List PyData → Bool
  | [] => true
  | x :: xs => noB x && noBs xs
end
/-- == -/
def eqD (a b : PyData) : Option Bool :=
  match a, b with
  | .bool x, .bool y => some (x == y)
  | a, b => if noB a && noB b && SeqAt.shaped a && SeqAt.shaped b then some (beqD a b) else none

/-- the data that are sorted: whole numbers; tuples of such; tuples of these -/
def uni : Nat → PyData → Bool
  | 0, .int _ => true
  | n + 1, .tuple (x :: xs) => uni n x && xs.all (uni n)
  | _, _ => false
mutual
def ltD : PyData → PyData → Bool
  | .int a, .int b => decide (a < b)
  | .tuple a, .tuple b => ltDs a b
  | _, _ => false
def ltDs : List PyData → List PyData → Bool
  | _, [] => false
  | [], _ :: _ => true
  | x :: xs, y :: ys => if beqD x y then ltDs xs ys else ltD x y
end
def big : Nat := 10000000
def insD (x : PyData) : List PyData → List PyData
  | [] => [x]
  | y :: ys => if ltD y x then y :: insD x ys else x :: y :: ys
def sortD : List PyData → List PyData
  | [] => []
  | x :: xs => insD x (sortD xs)
def sortable0 (xs : List PyData) : Bool := (xs.all (uni 0) || xs.all (uni 1) || xs.all (uni 2)) && decide (xs.length ≤ big)
/-- such, or the empty tuple alone -/
def sortable (xs : List PyData) : Bool := sortable0 xs || beqDs xs [.tuple []]
/-- whole numbers, fewer than 64 -/
def setOk (xs : List PyData) : Bool := xs.all (uni 0) && decide (xs.length < 64)
def dedup : List PyData → List PyData
  | [] => []
  | x :: xs => if (dedup xs).any (beqD x) then dedup xs else x :: dedup xs

/-! ### expressions -/
inductive B1 where
  | len | sorted | tuple | list | max | min | sum | abs | int | str | sortedSet | lenSet | keys | listRange
  | isInt | isBool | isTuple | isStr | isList | isTupleList
  deriving DecidableEq
inductive B2 where
  | index | count | join
  deriving DecidableEq
inductive Bo where
  | add | sub | mul | fdiv | mod | pow | shl
  deriving DecidableEq
inductive Co where
  | eq | ne | lt | le | gt | ge | isin | notin | isb | isnb
  deriving DecidableEq
mutual
inductive Tg where
  | n (i : Nat)
  | t (ts : Tgs)
inductive Tgs where
  | nil
  | cons (t : Tg) (r : Tgs)
end
mutual
inductive Ex where
  | var (i : Nat)
  | lit (d : PyData)
  | glob (x : Str) (d : PyData)
  | cellIx (i n : Nat)
  | scrLen (i : Nat)
  | scrIx (i : Nat) (e : Ex)
  | tup (es : Exs)
  | lst (es : Exs)
  | emptyDict
  | bin (o : Bo) (a b : Ex)
  | neg (a : Ex)
  | cmp (o : Co) (a b : Ex)
  | chain (o : Co) (p : Co) (a b c : Ex)
  | isNone (a : Ex) | notNone (a : Ex)
  | and (a b : Ex)
  | or (a b : Ex)
  | not (a : Ex)
  | ite (c a b : Ex)
  | ix (a i : Ex)
  | sliceTo (a hi : Ex) | sliceFrom (a lo : Ex) | slice (a lo hi : Ex)
  | rev (a : Ex)
  | call (f : Nat) (es : Exs)
  | b1 (f : B1) (a : Ex)
  | b2 (f : B2) (a b : Ex)
  | get3 (o k d : Ex)
  | comp0 (elt : Ex) (tg : Tg) (it : It) (own : List Nat)
  | comp1 (elt : Ex) (tg : Tg) (it : It) (cond : Ex) (own : List Nat)
inductive Exs where
  | nil
  | cons (e : Ex) (r : Exs)
inductive It where
  | val (e : Ex)
  | range1 (e : Ex)
  | range2 (a b : Ex)
  | enum (e : Ex)
  | zip (a b : Ex)
  | keys (e : Ex)
end

/-! ### operations on data -/
def sz (n : Nat) : Bool := decide (n ≤ big)
def catD (xs ys : List PyData) (mk : List PyData → PyData) (fl : Fl) : Option (PyData × Fl) := if sz (xs.length + ys.length) then some (mk (xs ++ ys), fl) else none
def smallI (i : Int) : Bool := decide (-(2 ^ 64) < i ∧ i < 2 ^ 64)
def rep (n : Nat) (xs : List PyData) : List PyData := (List.replicate n xs).flatten
def binD (o : Bo) (a b : PyData) : Option (PyData × Fl) :=
  match o, a, b with
  | .add, .int i, .int j => some (.int (i + j), .c)
  | .add, .list xs, .list ys => catD xs ys .list .f
  | .add, .tuple xs, .tuple ys => catD xs ys .tuple .c
  | .add, .str x, .str y => if sz (x.length + y.length) then some (.str (x ++ y), .c) else none
  | .sub, .int i, .int j => some (.int (i - j), .c)
  | .mul, .int i, .int j => if smallI i || smallI j then some (.int (i * j), .c) else none
  | .mul, .list xs, .int j => if decide (0 ≤ j) && decide (j ≤ 100000) && sz (xs.length * j.toNat) then some (.list (rep j.toNat xs), .f) else none
  | .fdiv, .int i, .int j => if decide (0 < j) && decide (j < 1073741824) then some (.int (i / j), .c) else none
  | .mod, .int i, .int j => if decide (0 < j) then some (.int (i % j), .c) else none
  | .shl, .int i, .int j => if decide (0 ≤ j) && decide (j ≤ 1000) && decide (i.natAbs < 2 ^ 64) then some (.int (i * 2 ^ j.toNat), .c) else none
  | .pow, .int i, .int j => if decide (0 ≤ j) && decide (j ≤ 1000) && decide (i.natAbs < 2 ^ 64) then some (.int (i ^ j.toNat), .c) else none
  | _, _, _ => none
def alikeU (a b : PyData) : Bool := (uni 0 a && uni 0 b) || (uni 1 a && uni 1 b) || (uni 2 a && uni 2 b) || (uni 3 a && uni 3 b)
/-- data that == may look through -/
def plainD (d : PyData) : Bool := noB d && SeqAt.shaped d
def inD (x : PyData) (ys : List PyData) : Option Bool := if plainD x && plainD (.list ys) then some (ys.any fun y => beqD y x) else none
def lookD (k : PyData) : List (PyData × PyData) → Option PyData
  | [] => none
  | (x, v) :: r => if beqD x k then some v else lookD k r
def putD (k v : PyData) : List (PyData × PyData) → List (PyData × PyData)
  | [] => [(k, v)]
  | (x, u) :: r => if beqD x k then (x, v) :: r else (x, u) :: putD k v r
/-- a tuple of ints, or of such (to depth 4): what keys may be -/
def keyOk (d : PyData) : Bool := uni 1 d || uni 2 d || beqD d (.tuple [])
def cmpD (o : Co) (a b : PyData) : Option Bool :=
  match o with
  | .eq => eqD a b
  | .ne => (eqD a b).map (!·)
  | .lt => if alikeU a b then some (ltD a b) else none
  | .gt => if alikeU a b then some (ltD b a) else none
  | .le => if alikeU a b then some (!ltD b a) else none
  | .ge => if alikeU a b then some (!ltD a b) else none
  | .isin => match b with
    | .list ys => inD a ys
    | .tuple ys => inD a ys
    | .dict kvs => if keyOk a then some (lookD a kvs).isSome else none
    | _ => none
  | .notin => match b with
    | .list ys => (inD a ys).map (!·)
    | .tuple ys => (inD a ys).map (!·)
    | .dict kvs => if keyOk a then some (!(lookD a kvs).isSome) else none
    | _ => none
  | .isb => match a, b with
    | .bool x, .bool y => some (x == y)
    | _, _ => none
  | .isnb => match a, b with
    | .bool x, .bool y => some (!(x == y))
    | _, _ => none
def nthD (xs : List PyData) (i : Int) : Option PyData := L2.atI xs i
def ixD (a i : PyData) : Option PyData :=
  match a, i with
  | .list xs, .int i => nthD xs i
  | .tuple xs, .int i => nthD xs i
  | .str z, .int i => if sz z.length then (L2.atI z.cps.toList i).map fun c => .str ⟨#[c]⟩ else none
  | .dict kvs, k => if keyOk k then lookD k kvs else none
  | _, _ => none
/-- the items of xs[lo:hi] -/
def cutL {α : Type} (xs : List α) (lo hi : Option Int) : List α := (xs.drop (HT.sIx xs.length 0 lo)).take (HT.sIx xs.length xs.length hi - HT.sIx xs.length 0 lo)
def sliceD (a : PyData) (lo hi : Option Int) : Option (PyData × Fl) :=
  match a with
  | .list xs => some (.list (cutL xs lo hi), .f)
  | .tuple xs => some (.tuple (cutL xs lo hi), .c)
  | .str z => if sz z.length then some (.str ⟨(cutL z.cps.toList lo hi).toArray⟩, .c) else none
  | _ => none
def intOf : PyData → Option Int
  | .int i => some i
  | _ => none
mutual
/-- whole numbers and tuples alone -/
def intTree : PyData → Bool
  | .int _ => true
  | .tuple xs => intTrees xs
  | _ => false
def intTrees : List PyData → Bool
  | [] => true
  | x :: xs => intTree x && intTrees xs
end
def cmpAll (xs : List PyData) : Bool := xs.all (uni 0) || (intTrees xs && xs.all fun x => xs.all fun y => PySem.W.alike x y)
def minL (x : PyData) : List PyData → PyData
  | [] => x
  | y :: ys => minL (if ltD y x then y else x) ys
def maxL (x : PyData) : List PyData → PyData
  | [] => x
  | y :: ys => maxL (if ltD x y then y else x) ys
def sumI : List Int → Int
  | [] => 0
  | a :: r => a + sumI r
def intsOf : List PyData → Option (List Int)
  | [] => some []
  | .int i :: r => (intsOf r).map (i :: ·)
  | _ :: _ => none
def rangeL (lo : Int) : Nat → List PyData
  | 0 => []
  | n + 1 => .int lo :: rangeL (lo + 1) n
def seqOf : PyData → Option (List PyData)
  | .list xs => some xs
  | .tuple xs => some xs
  | _ => none
def b1D (f : B1) (a : PyData) : Option (PyData × Fl) :=
  match f with
  | .len => match a with
    | .list xs => some (.int xs.length, .c)
    | .tuple xs => some (.int xs.length, .c)
    | .str z => if sz z.length then some (.int z.length, .c) else none
    | .dict kvs => some (.int kvs.length, .c)
    | _ => none
  | .sorted => (seqOf a).bind fun xs => if sortable xs then some (.list (sortD xs), .f) else none
  | .keys => match a with
    | .dict kvs => if sortable (kvs.map (·.1)) then some (.list (sortD (kvs.map (·.1))), .f) else none
    | _ => none
  | .sortedSet => (seqOf a).bind fun xs => if setOk xs then some (.list (sortD (dedup xs)), .f) else none
  | .lenSet => (seqOf a).bind fun xs => if setOk xs then some (.int (dedup xs).length, .c) else none
  | .tuple => (seqOf a).map fun xs => (.tuple xs, .c)
  | .list => (seqOf a).map fun xs => (.list xs, .f)
  | .listRange => match a with
    | .int n => if decide (-1000000 ≤ n) && decide (n ≤ 100000) then some (.list (rangeL 0 n.toNat), .f) else none
    | _ => none
  | .max => (seqOf a).bind fun xs => match xs with
    | [] => none
    | x :: r => if cmpAll (x :: r) && decide (PyData.depthAll (x :: r) ≤ 40) then some (maxL x r, .c) else none
  | .min => (seqOf a).bind fun xs => match xs with
    | [] => none
    | x :: r => if cmpAll (x :: r) && decide (PyData.depthAll (x :: r) ≤ 40) then some (minL x r, .c) else none
  | .sum => match a with
    | .list xs => (intsOf xs).map fun is => (.int (sumI is), .c)
    | _ => none
  | .abs => match a with
    | .int i => some (.int (if i < 0 then -i else i), .c)
    | _ => none
  | .int => match a with
    | .int i => some (.int i, .c)
    | .bool k => some (.int (if k then 1 else 0), .c)
    | _ => none
  | .str => match a with
    | .int i => if decide (i.natAbs < 2 ^ 64) then some (.str (toString i), .c) else none
    | _ => none
  | .isInt => match a with
    | .int _ => some (.bool true, .c)
    | .bool _ => some (.bool true, .c)
    | .dict _ => none
    | _ => some (.bool false, .c)
  | .isBool => match a with
    | .bool _ => some (.bool true, .c)
    | .dict _ => none
    | _ => some (.bool false, .c)
  | .isTuple => match a with
    | .tuple _ => some (.bool true, .c)
    | .dict _ => none
    | _ => some (.bool false, .c)
  | .isStr => match a with
    | .str _ => some (.bool true, .c)
    | .dict _ => none
    | _ => some (.bool false, .c)
  | .isList => match a with
    | .list _ => some (.bool true, .c)
    | .dict _ => none
    | _ => some (.bool false, .c)
  | .isTupleList => match a with
    | .list _ => some (.bool true, .c)
    | .tuple _ => some (.bool true, .c)
    | .dict _ => none
    | _ => some (.bool false, .c)
def findD (x : PyData) : List PyData → Option Nat
  | [] => none
  | y :: ys => if beqD y x then some 0 else (findD x ys).map (· + 1)
def joinS (sep : Str) : List PyData → Option Str
  | [] => some ⟨#[]⟩
  | [.str x] => some x
  | .str x :: r => (joinS sep r).map fun y => x ++ sep ++ y
  | _ => none
def b2D (f : B2) (a b : PyData) : Option (PyData × Fl) :=
  match f with
  | .index => match a with
    | .list xs => if plainD b && plainD (.list xs) then (findD b xs).map fun (n : Nat) => (.int (n : Int), .c) else none
    | _ => none
  | _ => none
def isListD : PyData → Bool
  | .list _ => true
  | _ => false
def isDicD : PyData → Bool
  | .dict _ => true
  | _ => false
def b2ok (f : B2) (a : PyData) : Bool := match f with
  | .index => isListD a
  | _ => false
def get3D (o k d : PyData) : Option PyData :=
  match o with
  | .dict kvs => if keyOk k then some ((lookD k kvs).getD d) else none
  | _ => none
def both : PyData → PyData → Option (List PyData × List PyData)
  | .list xs, .list ys => some (xs, ys)
  | .tuple xs, .tuple ys => some (xs, ys)
  | _, _ => none
def zipD : List PyData → List PyData → List (List PyData)
  | x :: xs, y :: ys => [x, y] :: zipD xs ys
  | _, _ => []
def enumD : Int → List PyData → List (List PyData)
  | _, [] => []
  | i, x :: xs => [.int i, x] :: enumD (i + 1) xs

/-- the keys of a dict that nobody writes -/
def keysD : PyData × Fl → Option (List PyData)
  | (_, .b) => none
  | (.dict kvs, _) => some (kvs.map (·.1))
  | _ => none
def isNoneD : PyData → Bool
  | .none => true
  | _ => false
/-! ### the evaluator -/
def getS (env : Ev) (i : Nat) : Option Sl := match env[i]? with
  | some (some s) => some s
  | _ => none
def setS (env : Ev) (i : Nat) (s : Sl) : Ev := env.set i (some s)
def wipeS (env : Ev) : List Nat → Ev
  | [] => env
  | v :: vs => (wipeS env vs).set v none
/-- what is handed on to a place that keeps it -/
def keepD (p : PyData × Fl) : Option PyData := match p.2 with
  | .b => none
  | _ => some p.1
mutual
/-- targets get their values -/
def bindG : Tg → Ev → PyData → Option Ev
  | .n i, env, x => some (setS env i (.v x))
  | .t ts, env, .tuple xs => bindGs ts env xs
  | .t _, _, _ => none
def bindGs : Tgs → Ev → List PyData → Option Ev
  | .nil, env, [] => some env
  | .cons t r, env, x :: xs => match bindG t env x with
    | some env' => bindGs r env' xs
    | none => none
  | _, _, _ => none
end
def cellGet (s : Option Sl) (m : Mu) (n : Nat) : Option PyData := match s, m, n with
  | some .cell, some p, n + 1 => (p.2[n]?).map .int
  | _, _, _ => none
def scrGet (s : Option Sl) (m : Mu) : Option (List Int) := match s, m with
  | some .cell, some p => some p.1
  | _, _ => none
abbrev Calls := Nat → List Vl → Mu → Out PyData
def lcLoop (f : PyData → Mu → Out (Option PyData)) : List PyData → Mu → Out (List PyData)
  | [], m => .ok [] m
  | x :: xs, m => (f x m).noex.bind fun y m => (lcLoop f xs m).bind fun ds m => .ok (match y with | some d => d :: ds | none => ds) m
def isCell (env : Ev) : Ex → Bool
  | .var i => match getS env i with
    | some .cell => true
    | _ => false
  | _ => false
def joinF : Fl → Fl → Fl
  | .b, _ => .b
  | _, .b => .b
  | _, _ => .c
mutual
def ev (C : Calls) : Ex → Ev → Mu → Out (PyData × Fl)
  | .var i, env, m => match getS env i with
    | some (.v d) => .ok (d, .c) m
    | some (.o xs) => .ok (.list xs, .b) m
    | some (.od kvs) => .ok (.dict kvs, .b) m
    | _ => .bad
  | .lit d, _, m => .ok (d, .c) m
  | .glob _ d, _, m => .ok (d, .c) m
  | .cellIx i n, env, m => .of ((cellGet (getS env i) m n).map fun d => (d, .c)) m
  | .scrLen i, env, m => .of ((scrGet (getS env i) m).map fun ns => (.int ns.length, .c)) m
  | .scrIx i e, env, m => match scrGet (getS env i) m with
    | some ns => (ev C e env m).bind fun x m => .of ((intOf x.1).bind fun k => (L2.atI ns k).map fun j => (.int j, .c)) m
    | none => .bad
  | .tup es, env, m => (evs C es env m).bind fun ds m => .ok (.tuple ds, .c) m
  | .lst es, env, m => (evs C es env m).bind fun ds m => .ok (.list ds, .f) m
  | .emptyDict, _, m => .ok (.dict [], .f) m
  | .bin o a b, env, m => (ev C a env m).bind fun x m => (ev C b env m).bind fun y m => .of (binD o x.1 y.1) m
  | .neg a, env, m => (ev C a env m).bind fun x m => .of ((intOf x.1).map fun i => (.int (-i), .c)) m
  | .cmp o a b, env, m => (ev C a env m).bind fun x m => (ev C b env m).bind fun y m => .of ((cmpD o x.1 y.1).map fun k => (.bool k, .c)) m
  | .chain o p a b c, env, m => (ev C a env m).bind fun x m => (ev C b env m).bind fun y m => match cmpD o x.1 y.1 with
    | some true => (ev C c env m).bind fun z m => .of ((cmpD p y.1 z.1).map fun k => (.bool k, .c)) m
    | some false => .ok (.bool false, .c) m
    | none => .bad
  | .isNone a, env, m => (ev C a env m).bind fun x m => .ok (.bool (isNoneD x.1), .c) m
  | .notNone a, env, m => (ev C a env m).bind fun x m => .ok (.bool (!isNoneD x.1), .c) m
  | .and a b, env, m => (ev C a env m).bind fun x m => match x.1 with
    | .bool true => ev C b env m
    | .bool false => .ok (.bool false, .c) m
    | _ => .bad
  | .or a b, env, m => (ev C a env m).bind fun x m => match x.1 with
    | .bool true => .ok (.bool true, .c) m
    | .bool false => ev C b env m
    | _ => .bad
  | .not a, env, m => (ev C a env m).bind fun x m => match x.1 with
    | .bool k => .ok (.bool (!k), .c) m
    | _ => .bad
  | .ite c a b, env, m => (ev C c env m).bind fun x m => match x.1 with
    | .bool true => ev C a env m
    | .bool false => ev C b env m
    | _ => .bad
  | .ix a i, env, m => (ev C a env m).bind fun x m => (ev C i env m).bind fun y m => .of ((ixD x.1 y.1).map fun d => (d, .c)) m
  | .sliceTo a hi, env, m => (ev C a env m).bind fun x m => (ev C hi env m).bind fun y m => match y.1 with
    | .int j => .of (sliceD x.1 none (some j)) m
    | _ => .bad
  | .sliceFrom a lo, env, m => (ev C a env m).bind fun x m => (ev C lo env m).bind fun y m => match y.1 with
    | .int j => .of (sliceD x.1 (some j) none) m
    | _ => .bad
  | .slice a lo hi, env, m => (ev C a env m).bind fun x m => (ev C lo env m).bind fun y m => match y.1 with
    | .int i => (ev C hi env m).bind fun z m => match z.1 with
      | .int j => .of (sliceD x.1 (some i) (some j)) m
      | _ => .bad
    | _ => .bad
  | .rev a, env, m => (ev C a env m).bind fun x m => match x.1 with
    | .tuple xs => .ok (.tuple xs.reverse, .c) m
    | _ => .bad
  | .call f es, env, m => (evA C es env m).bind fun vs m => (C f vs m).bind fun d m => .ok (d, .c) m
  | .b1 f a, env, m => (ev C a env m).bind fun x m => .of (b1D f x.1) m
  | .b2 f a b, env, m => (ev C a env m).bind fun x m => match b2ok f x.1 with
    | true => (ev C b env m).bind fun y m => .of (b2D f x.1 y.1) m
    | false => .bad
  | .get3 o k d, env, m => (ev C o env m).bind fun x m => match isDicD x.1 with
    | true => (ev C k env m).bind fun y m => match keyOk y.1 with
      | true => (ev C d env m).bind fun z m => match keepD z with
        | some z => .of ((get3D x.1 y.1 z).map fun d => (d, .c)) m
        | none => .bad
      | false => .bad
    | false => .bad
  | .comp0 elt tg it own, env, m => (evI C it env m).bind fun xs m =>
      (lcLoop (fun x m => match bindG tg (wipeS env own) x with
        | some env' => (ev C elt env' m).bind fun y m => match keepD y with
          | some d => .ok (some d) m
          | none => .bad
        | none => .bad) xs.1 m).bind fun ds m => if sz ds.length then .ok (.list ds, .f) m else .bad
  | .comp1 elt tg it cond own, env, m => (evI C it env m).bind fun xs m =>
      (lcLoop (fun x m => match bindG tg (wipeS env own) x with
        | some env' => (ev C cond env' m).bind fun c m => match c.1 with
          | .bool true => (ev C elt env' m).bind fun y m => match keepD y with
            | some d => .ok (some d) m
            | none => .bad
          | .bool false => .ok none m
          | _ => .bad
        | none => .bad) xs.1 m).bind fun ds m => if sz ds.length then .ok (.list ds, .f) m else .bad
def evs (C : Calls) : Exs → Ev → Mu → Out (List PyData)
  | .nil, _, m => .ok [] m
  | .cons e r, env, m => (ev C e env m).bind fun x m => match keepD x with
    | some d => (evs C r env m).bind fun ds m => .ok (d :: ds) m
    | none => .bad
def evA (C : Calls) : Exs → Ev → Mu → Out (List Vl)
  | .nil, _, m => .ok [] m
  | .cons e r, env, m => match isCell env e with
    | true => (evA C r env m).bind fun vs m => .ok (.cell :: vs) m
    | false => (ev C e env m).bind fun x m => match keepD x with
      | some d => (evA C r env m).bind fun vs m => .ok (.d d :: vs) m
      | none => .bad
def evI (C : Calls) : It → Ev → Mu → Out (List PyData × Fl)
  | .val e, env, m => (ev C e env m).bind fun x m => .of ((seqOf x.1).map fun xs => (xs, joinF x.2 .c)) m
  | .range1 e, env, m => (ev C e env m).bind fun x m => match x.1 with
    | .int n => if decide (-1000000 ≤ n) && decide (n ≤ 1000000) then .ok (rangeL 0 n.toNat, .c) m else .bad
    | _ => .bad
  | .range2 a b, env, m => (ev C a env m).bind fun x m => (ev C b env m).bind fun y m => match x.1, y.1 with
    | .int i, .int n => if decide (-1000000 ≤ n) && decide (n ≤ 1000000) && decide (-1000000 ≤ i) && decide (i ≤ 1000000) then .ok (rangeL i (n - i).toNat, .c) m else .bad
    | _, _ => .bad
  | .enum e, env, m => (ev C e env m).bind fun x m => .of ((seqOf x.1).map fun xs => ((enumD 0 xs).map .tuple, joinF x.2 .c)) m
  | .zip a b, env, m => (ev C a env m).bind fun x m => (ev C b env m).bind fun y m => .of ((both x.1 y.1).map fun p => ((zipD p.1 p.2).map .tuple, joinF x.2 y.2)) m
  | .keys e, env, m => (ev C e env m).bind fun x m => match keysD x with
    | some ks => .ok (ks, .c) m
    | none => .bad
end

/-! ### statements -/
mutual
inductive Sm where
  | set (i : Nat) (e : Ex)
  | setT (ts : Tgs) (e : Ex)
  | par (is : List Nat) (es : Exs)
  | newCell (i j : Nat) (ks : List Int)
  | setCell (i n : Nat) (e : Ex)
  | aug (i : Nat) (o : Bo) (e : Ex)
  | setIx (i : Nat) (k e : Ex)
  | augIx (i : Nat) (k : Ex) (o : Bo) (e : Ex)
  | append (i : Nat) (e : Ex)
  | popTo (y x : Nat)
  | pop (x : Nat)
  | ret (e : Ex)
  | ifs (c : Ex) (a b : Sms)
  | for (tg : Tg) (it : It) (b : Sms)
  | while (c : Ex) (b : Sms)
  | brk
  | expr (e : Ex)
  | raise (c : Str) (fs : List Str) (es : Exs)
  | never
  | freeze (i : Nat)
inductive Sms where
  | nil
  | cons (s : Sm) (r : Sms)
end
inductive Flo where
  | next | brk | ret (d : PyData)
def forL (body : PyData → Ev → Mu → Out (Flo × Ev)) : List PyData → Ev → Mu → Out (Flo × Ev)
  | [], env, m => .ok (.next, env) m
  | x :: xs, env, m => (body x env m).bind fun r m => match r.1 with
    | .next => forL body xs r.2 m
    | .brk => .ok (.next, r.2) m
    | .ret d => .ok (.ret d, r.2) m
def whileL (c : Ev → Mu → Out (PyData × Fl)) (body : Ev → Mu → Out (Flo × Ev)) : Nat → Ev → Mu → Out (Flo × Ev)
  | 0, _, _ => .bad
  | n + 1, env, m => (c env m).bind fun x m => match x.1 with
    | .bool false => .ok (.next, env) m
    | .bool true => (body env m).bind fun r m => match r.1 with
      | .next => whileL c body n r.2 m
      | .brk => .ok (.next, r.2) m
      | .ret d => .ok (.ret d, r.2) m
    | _ => .bad
/-- a name takes a value; a new list or dict is the name's own -/
def setV (env : Ev) (i : Nat) (p : PyData × Fl) : Option Ev := match p.2, p.1 with
  | .f, .list xs => some (setS env i (.o xs))
  | .f, .dict kvs => some (setS env i (.od kvs))
  | .b, _ => none
  | _, d => some (setS env i (.v d))
def parV (env : Ev) : List Nat → List (PyData × Fl) → Option Ev
  | [], [] => some env
  | i :: is, p :: ps => match setV env i p with
    | some env' => parV env' is ps
    | none => none
  | _, _ => none
def evP (C : Calls) : Exs → Ev → Mu → Out (List (PyData × Fl))
  | .nil, _, m => .ok [] m
  | .cons e r, env, m => (ev C e env m).bind fun x m => (evP C r env m).bind fun ps m => .ok (x :: ps) m
def storeIx (s : Sl) (k d : PyData) : Option Sl := match s, k with
  | .o xs, .int i => if decide (0 ≤ i) && decide (i < xs.length) then some (.o (xs.set i.toNat d)) else none
  | .od kvs, k => if keyOk k && sz kvs.length then some (.od (putD k d kvs)) else none
  | _, _ => none
def slD : Sl → PyData
  | .v d => d
  | .o xs => .list xs
  | .od kvs => .dict kvs
  | .cell => .none
  | .scr _ => .none
def isOwn : Sl → Bool
  | .o _ => true
  | .od _ => true
  | _ => false
def newCellD (s : Option Sl) (m : Mu) : Option (List Int) := match s, m with
  | some (.scr ns), none => some ns
  | _, _ => none
def setCellD (s : Option Sl) (m : Mu) (d : PyData) (n : Nat) : Option (List Int × List Int) := match s, m, intOf d, n with
  | some .cell, some p, some v, n + 1 => if n < p.2.length then some (p.1, p.2.set n v) else none
  | _, _, _, _ => none
def ownS (s : Option Sl) : Option Sl := match s with
  | some s => if isOwn s then some s else none
  | none => none
/-- the whole number that an op= reads -/
def intO : Option PyData → Option Int
  | some (.int a) => some a
  | _ => none
def augR (s : Sl) (k : PyData) : Option Int := match s, k with
  | .o xs, .int i => if decide (0 ≤ i) then intO xs[i.toNat]? else none
  | .od kvs, k => if keyOk k then intO (lookD k kvs) else none
  | _, _ => none
def augO : Bo → Option (Int → Int → Int)
  | .add => some (· + ·)
  | .sub => some (· - ·)
  | _ => none
def isKeys : It → Bool
  | .keys _ => true
  | _ => false
mutual
def ex (C : Calls) (F : Nat) : Sm → Ev → Mu → Out (Flo × Ev)
  | .set i e, env, m => (ev C e env m).bind fun x m => .of ((setV env i x).map fun env' => (.next, env')) m
  | .setT ts e, env, m => (ev C e env m).bind fun x m => match keepD x with
    | some (.tuple xs) => .of ((bindGs ts env xs).map fun env' => (.next, env')) m
    | _ => .bad
  | .par is es, env, m => (evP C es env m).bind fun ps m => .of ((parV env is ps).map fun env' => (.next, env')) m
  | .newCell i j ks, env, m => match newCellD (getS env j) m with
    | some ns => .ok (.next, setS (env.set j none) i .cell) (some (ns, ks))
    | none => .bad
  | .setCell i n e, env, m => (ev C e env m).bind fun x m => match setCellD (getS env i) m x.1 n with
    | some p => .ok (.next, env) (some p)
    | none => .bad
  | .aug i o e, env, m => match getS env i with
    | some (.v (.int a)) => (ev C e env m).bind fun x m => match x.1, augO o with
      | .int b, some f => .ok (.next, setS env i (.v (.int (f a b)))) m
      | _, _ => .bad
    | _ => .bad
  | .setIx i k e, env, m => (ev C e env m).bind fun x m => match keepD x, ownS (getS env i) with
    | some d, some s => (ev C k env m).bind fun y m => .of ((storeIx s y.1 d).map fun s' => (.next, setS env i s')) m
    | _, _ => .bad
  | .augIx i k o e, env, m => match ownS (getS env i) with
    | some s => (ev C k env m).bind fun y m => match augR s y.1 with
      | some a => (ev C e env m).bind fun x m => match x.1, augO o with
        | .int b, some f => .of ((storeIx s y.1 (.int (f a b))).map fun s' => (.next, setS env i s')) m
        | _, _ => .bad
      | none => .bad
    | none => .bad
  | .append i e, env, m => match getS env i with
    | some (.o xs) => (ev C e env m).bind fun x m => match keepD x with
      | some d => if sz xs.length then .ok (.next, setS env i (.o (xs ++ [d]))) m else .bad
      | none => .bad
    | _ => .bad
  | .popTo y x, env, m => match getS env x with
    | some (.o xs) => match xs.getLast? with
      | some d => .ok (.next, setS (setS env x (.o xs.dropLast)) y (.v d)) m
      | none => .bad
    | _ => .bad
  | .pop x, env, m => match getS env x with
    | some (.o xs) => match xs.getLast? with
      | some _ => .ok (.next, setS env x (.o xs.dropLast)) m
      | none => .bad
    | _ => .bad
  | .ret e, env, m => (ev C e env m).bind fun x m => match keepD x with
    | some d => .ok (.ret d, env) m
    | none => .bad
  | .ifs c a b, env, m => (ev C c env m).bind fun x m => match x.1 with
    | .bool true => exs C F a env m
    | .bool false => exs C F b env m
    | _ => .bad
  | .for tg it b, env, m => (evI C it env m).bind fun xs m => match xs.2 with
    | .b => .bad
    | _ => (if isKeys it then Out.noex else id) (forL (fun x env m => match bindG tg env x with
      | some env' => exs C F b env' m
      | none => .bad) xs.1 env m)
  | .while c b, env, m => whileL (ev C c) (exs C F b) F env m
  | .brk, env, m => .ok (.brk, env) m
  | .expr e, env, m => (ev C e env m).bind fun _ m => .ok (.next, env) m
  | .raise c fs es, env, m => (evs C es env m).bind fun ds m => .ex c (fs.zip ds) m
  | .never, _, _ => .bad
  | .freeze i, env, m => match getS env i with
    | some .cell => .ok (.next, env) m
    | some (.scr _) => .ok (.next, env) m
    | some s => .ok (.next, setS env i (.v (slD s))) m
    | none => .ok (.next, env) m
def exs (C : Calls) (F : Nat) : Sms → Ev → Mu → Out (Flo × Ev)
  | .nil, env, m => .ok (.next, env) m
  | .cons s r, env, m => (ex C F s env m).bind fun p m => match p.1 with
    | .next => exs C F r p.2 m
    | _ => .ok p m
end

/-! ### defs -/
structure Fn where
  np : Nat
  nl : Nat
  body : Sms
def slOf : Vl → Sl
  | .d x => .v x
  | .cell => .cell
def startS (nl : Nat) (vs : List Vl) : Ev := vs.map (fun v => some (slOf v)) ++ List.replicate (nl - vs.length) none
def endF (r : Out (Flo × Ev)) : Out PyData := match r with
  | .ok (.ret d, _) m => .ok d m
  | .ok (.next, _) m => .ok .none m
  | .ok (.brk, _) _ => .bad
  | .ex c fs m => .ex c fs m
  | .bad => .bad
/-- a cell comes and goes with the law alone -/
def sameM (m : Mu) (r : Out PyData) : Out PyData := match r with
  | .ok d m' => if m.isNone == m'.isNone then .ok d m' else .bad
  | .ex c fs m' => if m.isNone == m'.isNone then .ex c fs m' else .bad
  | .bad => .bad
def callN (T : List Fn) (F : Nat) : Nat → Calls
  | 0 => fun _ _ _ => .bad
  | n + 1 => fun f vs m => match T[f]? with
    | some fn => if vs.length = fn.np then sameM m (endF (exs (callN T F n) F fn.body (startS fn.nl vs) m)) else .bad
    | none => .bad
/-- the law's own call -/
def lawN (T : List Fn) (F n : Nat) (fn : Fn) (ns : List Int) : Out PyData := endF (exs (callN T F n) F fn.body (some (.scr ns) :: List.replicate (fn.nl - 1) none) none)
end Tw
set_option Elab.async false
set_option linter.all false
set_option maxRecDepth 100000
/-! How values over the abstract heap hold data. -/
namespace Tw
open PySem PySem.Spec PyProof.Rows L2

structure Bs where
  P : Program
  w : World
  K : PySem.W.Frag
abbrev bsOf (X : Cx) : Bs := ⟨X.prog, X.w, X.K⟩
abbrev Hot := Addr → Prop
abbrev Ent := NestedKey × Addr × Value

/-- a dict, by its raw entries -/
def dicO (B : Bs) (a : Addr) (xs : List Ent) : HO := .ext fun h =>
  ∃ o es ep, h.get? a = some o ∧ o.ExactDict ∧ o.data = .dict es ep ∧ es.toList = xs.map (entryOfKey (nestedKind B.P B.w))

mutual
inductive Rp (B : Bs) (O : Hot) (H : Hp) : V → PyData → Prop
  | non : Rp B O H .non .none
  | bl (b : Bool) : Rp B O H (.bl b) (.bool b)
  | int (i : Int) : Rp B O H (.int i) (.int i)
  | str (x : Str) : Rp B O H (.str x) (.str x)
  | lst {a : Addr} {xs : List V} {ds : List PyData} : ¬ O a → Rd H a (.lst xs) → Rps B O H xs ds → Rp B O H (.ref a) (.list ds)
  | tup {a : Addr} {xs : List V} {ds : List PyData} : ¬ O a → Rd H a (.tup xs) → Rps B O H xs ds → Rp B O H (.ref a) (.tuple ds)
  | tupK {a : Addr} {xs : List V} {ds : List PyData} : (∀ H, SqT B.K H a xs) → Rps B O H xs ds → Rp B O H (.ref a) (.tuple ds)
  | dic {a : Addr} {xs : List Ent} {kvs : List (PyData × PyData)} : ¬ O a → (a == sysModules) = false → Rd H a (dicO B a xs) → (xs.map (·.1)).Nodup → xs.length ≤ sizeLine → Ens B O H xs kvs → Rp B O H (.ref a) (.dict kvs)
inductive Rps (B : Bs) (O : Hot) (H : Hp) : List V → List PyData → Prop
  | nil : Rps B O H [] []
  | cons {v : V} {vs : List V} {d : PyData} {ds : List PyData} : Rp B O H v d → Rps B O H vs ds → Rps B O H (v :: vs) (d :: ds)
inductive Ens (B : Bs) (O : Hot) (H : Hp) : List Ent → List (PyData × PyData) → Prop
  | nil : Ens B O H [] []
  | cons {k : NestedKey} {b : Addr} {u : Value} {v : V} {d : PyData} {xs : List Ent} {kvs : List (PyData × PyData)} : k.depth ≤ 8 → Rp B O H (.ref b) k.data → RelV v u → Rp B O H v d → Ens B O H xs kvs → Ens B O H ((k, b, u) :: xs) ((k.data, d) :: kvs)
end

section
variable {B : Bs} {O O' : Hot} {H H' : Hp}
/-- H goes over to H' where nothing hot is meant; what was tracked and cold stays cold -/
def Goes (O O' : Hot) (H H' : Hp) : Prop := ∀ b u, ¬ O b → Rd H b u → Rd H' b u ∧ ¬ O' b
theorem Goes.rd (g : Goes O O' H H') {a : Addr} {u : HO} (n : ¬ O a) (r : Rd H a u) : Rd H' a u ∧ ¬ O' a := g a u n r
mutual
theorem Rp.go (g : Goes O O' H H') : ∀ (d : PyData) (v : V), Rp B O H v d → Rp B O' H' v d
  | .none, _, h => by cases h; exact .non
  | .bool b, _, h => by cases h; exact .bl b
  | .int i, _, h => by cases h; exact .int i
  | .str x, _, h => by cases h; exact .str x
  | .list ds, _, h => by
    cases h with
    | lst n r a => exact .lst (g.rd n r).2 (g.rd n r).1 (Rps.go g ds _ a)
  | .tuple ds, _, h => by
    cases h with
    | tup n r a => exact .tup (g.rd n r).2 (g.rd n r).1 (Rps.go g ds _ a)
    | tupK s a => exact .tupK s (Rps.go g ds _ a)
  | .dict kvs, _, h => by
    cases h with
    | dic n s e nd z a => exact .dic (g _ _ n e).2 s (g _ _ n e).1 nd z (Ens.go g kvs _ a)
theorem Rps.go (g : Goes O O' H H') : ∀ (ds : List PyData) (vs : List V), Rps B O H vs ds → Rps B O' H' vs ds
  | [], _, h => by cases h; exact .nil
  | d :: ds, _, h => by
    cases h with
    | cons a b => exact .cons (Rp.go g d _ a) (Rps.go g ds _ b)
theorem Ens.go (g : Goes O O' H H') : ∀ (kvs : List (PyData × PyData)) (xs : List Ent), Ens B O H xs kvs → Ens B O' H' xs kvs
  | [], _, h => by cases h; exact .nil
  | (k, d) :: kvs, _, h => by
    cases h with
    | cons dp a r b c => exact .cons dp (Rp.go g _ _ a) r (Rp.go g d _ b) (Ens.go g kvs _ c)
end
theorem Rps.length : ∀ {ds : List PyData} {vs : List V}, Rps B O H vs ds → vs.length = ds.length
  | [], _, h => by cases h; rfl
  | d :: ds, _, h => by cases h with | cons a b => simp [Rps.length b]
theorem Rps.get : ∀ {ds : List PyData} {vs : List V} {i : Nat} {d : PyData}, Rps B O H vs ds → ds[i]? = some d → ∃ v, vs[i]? = some v ∧ Rp B O H v d
  | [], _, _, _, h, e => by simp at e
  | x :: ds, _, 0, d, h, e => by
    cases h with
    | cons a b => simp at e; subst e; exact ⟨_, rfl, a⟩
  | x :: ds, _, i + 1, d, h, e => by
    cases h with
    | cons a b =>
      obtain ⟨v, e1, e2⟩ := Rps.get (i := i) (d := d) b (by simpa using e)
      exact ⟨v, by simpa using e1, e2⟩
theorem Rps.getV : ∀ {ds : List PyData} {vs : List V} {i : Nat} {v : V}, Rps B O H vs ds → vs[i]? = some v → ∃ d, ds[i]? = some d ∧ Rp B O H v d := fun {ds vs i v} h e => by
  have hi : i < vs.length := (List.getElem?_eq_some_iff.mp e).1
  rw [h.length] at hi
  obtain ⟨v', e1, e2⟩ := h.get (List.getElem?_eq_getElem hi)
  rw [e] at e1; cases e1
  exact ⟨_, List.getElem?_eq_getElem hi, e2⟩
theorem Rps.append : ∀ {ds es : List PyData} {vs us : List V}, Rps B O H vs ds → Rps B O H us es → Rps B O H (vs ++ us) (ds ++ es)
  | [], _, _, _, h, k => by cases h; exact k
  | d :: ds, _, _, _, h, k => by cases h with | cons a b => exact .cons a (Rps.append b k)
theorem Rps.take : ∀ {ds : List PyData} {vs : List V} (n : Nat), Rps B O H vs ds → Rps B O H (vs.take n) (ds.take n)
  | _, _, 0, _ => by simp; exact .nil
  | [], _, n + 1, h => by cases h; exact .nil
  | d :: ds, _, n + 1, h => by cases h with | cons a b => exact .cons a (Rps.take n b)
theorem Rps.drop : ∀ {ds : List PyData} {vs : List V} (n : Nat), Rps B O H vs ds → Rps B O H (vs.drop n) (ds.drop n)
  | _, _, 0, h => by simpa using h
  | [], _, n + 1, h => by cases h; exact .nil
  | d :: ds, _, n + 1, h => by cases h with | cons a b => exact Rps.drop n b
theorem Rps.set : ∀ {ds : List PyData} {vs : List V} (i : Nat) {v : V} {d : PyData}, Rps B O H vs ds → Rp B O H v d → Rps B O H (vs.set i v) (ds.set i d)
  | [], _, _, _, _, h, _ => by cases h; exact .nil
  | x :: ds, _, 0, _, _, h, r => by cases h with | cons a b => exact .cons r b
  | x :: ds, _, i + 1, _, _, h, r => by cases h with | cons a b => exact .cons a (Rps.set i b r)
theorem Rps.reverse : ∀ {ds : List PyData} {vs : List V}, Rps B O H vs ds → Rps B O H vs.reverse ds.reverse
  | [], _, h => by cases h; exact .nil
  | d :: ds, _, h => by
    cases h with
    | cons a b => simp only [List.reverse_cons]; exact (Rps.reverse b).append (.cons a .nil)
theorem Rps.mem : ∀ {ds : List PyData} {vs : List V} {v : V}, Rps B O H vs ds → v ∈ vs → ∃ d, d ∈ ds ∧ Rp B O H v d := fun {ds vs v} h hm => by
  obtain ⟨i, hi, e⟩ := List.getElem_of_mem hm
  obtain ⟨d, e1, e2⟩ := h.getV (i := i) (v := v) (by rw [List.getElem?_eq_getElem hi, e])
  exact ⟨d, List.mem_of_getElem? e1, e2⟩
theorem Rps.rep : ∀ {ds : List PyData} {vs : List V} (n : Nat), Rps B O H vs ds → Rps B O H (List.replicate n vs).flatten (rep n ds)
  | _, _, 0, _ => by simp [Tw.rep]; exact .nil
  | _, _, n + 1, h => by
    have k := h.rep n
    unfold Tw.rep at k ⊢
    simp only [List.replicate_succ, List.flatten_cons]
    exact h.append k

mutual
/-- no dict within -/
def noDict : PyData → Bool
  | .dict _ => false
  | .list xs => noDicts xs
  | .tuple xs => noDicts xs
  | _ => true
def noDicts : List PyData → Bool
  | [] => true
  | x :: xs => noDict x && noDicts xs
end
theorem sqL_of {K : PySem.W.Frag} {a : Addr} {xs : List V} (r : Rd H a (.lst xs)) : SqL K H a xs := .inl r
theorem sqT_of {K : PySem.W.Frag} {a : Addr} {xs : List V} (r : Rd H a (.tup xs)) : SqT K H a xs := .inl r
mutual
theorem Rp.dp : ∀ (d : PyData) (v : V), noDict d = true → Rp B O H v d → Dp B.K H v d
  | .none, _, _, h => by cases h; exact .non
  | .bool b, _, _, h => by cases h; exact .bl b
  | .int i, _, _, h => by cases h; exact .int i
  | .str x, _, _, h => by cases h; exact .str x
  | .list ds, _, n, h => by
    cases h with
    | lst _ r a => exact .lst (sqL_of r) (Rps.dp ds _ (by simpa [noDict] using n) a)
  | .tuple ds, _, n, h => by
    cases h with
    | tup _ r a => exact .tup (sqT_of r) (Rps.dp ds _ (by simpa [noDict] using n) a)
    | tupK s a => exact .tup (s H) (Rps.dp ds _ (by simpa [noDict] using n) a)
  | .dict _, _, n, _ => by simp [noDict] at n
theorem Rps.dp : ∀ (ds : List PyData) (vs : List V), noDicts ds = true → Rps B O H vs ds → DpAll B.K H vs ds
  | [], _, _, h => by cases h; exact .nil
  | d :: ds, _, n, h => by
    cases h with
    | cons a b =>
      have n' : noDict d = true ∧ noDicts ds = true := by simpa [noDicts] using n
      exact .cons (Rp.dp d _ n'.1 a) (Rps.dp ds _ n'.2 b)
end

/-! ### how an expression's value is held -/
/-- the list, or dict, itself may be hot -/
inductive Bw (B : Bs) (O : Hot) (H : Hp) : Addr → PyData → Prop
  | lst {a : Addr} {xs : List V} {ds : List PyData} : Rd H a (.lst xs) → Rps B O H xs ds → Bw B O H a (.list ds)
  | dic {a : Addr} {xs : List Ent} {kvs : List (PyData × PyData)} : (a == sysModules) = false → Rd H a (dicO B a xs) → (xs.map (·.1)).Nodup → xs.length ≤ sizeLine → Ens B O H xs kvs → Bw B O H a (.dict kvs)
/-- a new list or dict -/
inductive Nw (B : Bs) (O : Hot) (H : Hp) : Addr → PyData → Prop
  | lst {a : Addr} {xs : List V} {ds : List PyData} : H a = some (.lst xs) → Rps B O H xs ds → Nw B O H a (.list ds)
  | dic {a : Addr} {xs : List Ent} {kvs : List (PyData × PyData)} : (a == sysModules) = false → H a = some (dicO B a xs) → (xs.map (·.1)).Nodup → xs.length ≤ sizeLine → Ens B O H xs kvs → Nw B O H a (.dict kvs)
def RF (B : Bs) (O : Hot) (ρ : Option Addr) (H0 H : Hp) (v : V) (d : PyData) : Fl → Prop
  | .c => Rp B O H v d
  | .b => ∃ a, v = .ref a ∧ ρ ≠ some a ∧ Bw B O H a d
  | .f => ∃ a, v = .ref a ∧ ρ ≠ some a ∧ H0 a = none ∧ Nw B (fun b => O b ∨ b = a) H a d
/-- what was tracked, but the cell, is as it was -/
def Fr (ρ : Option Addr) (H H' : Hp) : Prop := ∀ b o, ρ ≠ some b → H b = some o → H' b = some o
theorem Fr.refl (ρ : Option Addr) (H : Hp) : Fr ρ H H := fun _ _ _ h => h
theorem Fr.trans {ρ : Option Addr} {H H1 H2 : Hp} (a : Fr ρ H H1) (b : Fr ρ H1 H2) : Fr ρ H H2 := fun c o n h => b c o n (a c o n h)
theorem Fr.upd {ρ : Option Addr} {H : Hp} {p : Addr} {o : HO} (n : H p = none) : Fr ρ H (upd H p o) := fun b x _ e => by
  rw [upd_ne (ne_of_none e n)]; exact e
theorem Fr.rd {ρ : Option Addr} (f : Fr ρ H H') {a : Addr} {u : HO} (n : ρ ≠ some a) (r : Rd H a u) : Rd H' a u := by
  rcases r with r | ⟨o, r⟩
  · exact .inl (f _ _ n r)
  · exact .inr ⟨o, f _ _ n r⟩
/-- the script -/
def Scr (K : PySem.W.Frag) (H : Hp) (q : Addr) (ns : List Int) : Prop := (∃ o, H q = some (.frz o (.lst (ns.map V.int)))) ∨ ∀ H', SqL K H' q (ns.map V.int)
theorem Scr.sq {K : PySem.W.Frag} {H : Hp} {q : Addr} {ns : List Int} (s : Scr K H q ns) : SqL K H q (ns.map V.int) := by
  rcases s with ⟨o, h⟩ | h
  · exact .inl (.inr ⟨o, h⟩)
  · exact h H
/-- the cell -/
def Cell (B : Bs) (O : Hot) (ρ : Option Addr) (H : Hp) (m : Mu) : Prop := match m with
  | none => ρ = none
  | some p => ∃ a q, ρ = some a ∧ O a ∧ H a = some (.lst (.ref q :: p.2.map V.int)) ∧ Scr B.K H q p.1
def SlR (B : Bs) (O : Hot) (ρ : Option Addr) (H : Hp) (v : V) : Sl → Prop
  | .v d => Rp B O H v d
  | .o xs => ∃ a vs, v = .ref a ∧ O a ∧ ρ ≠ some a ∧ H a = some (.lst vs) ∧ Rps B O H vs xs
  | .od kvs => ∃ a xs, v = .ref a ∧ O a ∧ ρ ≠ some a ∧ (a == sysModules) = false ∧ H a = some (dicO B a xs) ∧ (xs.map (·.1)).Nodup ∧ xs.length ≤ sizeLine ∧ Ens B O H xs kvs
  | .cell => ∃ a, ρ = some a ∧ v = .ref a
  | .scr ns => ∃ q, v = .ref q ∧ ((ρ ≠ some q ∧ ∃ o, H q = some (.frz o (.lst (ns.map V.int)))) ∨ ∀ H', SqL B.K H' q (ns.map V.int))
structure SR (B : Bs) (O : Hot) (ρ : Option Addr) (σ : L2.St) (H : Hp) (env : Ev) (m : Mu) : Prop where
  hot : ∀ a, O a → ∃ o, H a = some o
  slot : ∀ (i : Nat) (s : Sl), env[i]? = some (some s) → ∃ v : V, σ[i]? = some (some v) ∧ SlR B O ρ H v s
  cell : Cell B O ρ H m
  len : env.length ≤ σ.length
theorem Fr.goes {ρ : Option Addr} (f : Fr ρ H H') (hρ : ∀ a, ρ = some a → O a) : Goes O O H H' := fun b o n e => ⟨f.rd (fun z => n (hρ b z)) e, n⟩
theorem Rd.some {a : Addr} {u : HO} (r : Rd H a u) : ∃ o, H a = some o := by
  rcases r with r | ⟨o, r⟩
  · exact ⟨_, r⟩
  · exact ⟨_, r⟩
theorem Rd.ne {a p : Addr} {u : HO} (r : Rd H a u) (n : H p = none) : a ≠ p := by
  obtain ⟨o, e⟩ := Rd.some r
  exact ne_of_none e n
theorem goes_upd {p : Addr} {o : HO} (n : H p = none) : Goes O O H (upd H p o) := fun b u nb r => by
  have hn := Rd.ne r n
  refine ⟨?_, nb⟩
  rcases r with r | ⟨o', r⟩
  · exact .inl (by rw [upd_ne hn]; exact r)
  · exact .inr ⟨o', by rw [upd_ne hn]; exact r⟩
theorem Cell.hρ {ρ : Option Addr} {m : Mu} (c : Cell B O ρ H m) : ∀ a, ρ = some a → O a := fun a e => by
  cases m with
  | none => rw [show ρ = none from c] at e; cases e
  | some cs => obtain ⟨b, _, e', o, _⟩ := c; rw [e] at e'; cases e'; exact o
theorem SR.goes {ρ : Option Addr} {σ : L2.St} {env : Ev} {m : Mu} (S : SR B O ρ σ H env m) (f : Fr ρ H H') : Goes O O H H' := f.goes S.cell.hρ
theorem SlR.go {ρ : Option Addr} {v : V} {s : Sl} (f : Fr ρ H H') (g : Goes O O H H') (r : SlR B O ρ H v s) : SlR B O ρ H' v s := by
  cases s with
  | v d => exact Rp.go g _ _ r
  | o xs => obtain ⟨a, vs, e, o, n, h, k⟩ := r; exact ⟨a, vs, e, o, n, f _ _ n h, Rps.go g _ _ k⟩
  | od kvs => obtain ⟨a, xs, e, o, n, sm, h, nd, z, k⟩ := r; exact ⟨a, xs, e, o, n, sm, f _ _ n h, nd, z, Ens.go g _ _ k⟩
  | cell => exact r
  | scr ns =>
    obtain ⟨q, e, r⟩ := r
    refine ⟨q, e, ?_⟩
    rcases r with ⟨ne, o, h⟩ | h
    · exact .inl ⟨ne, o, f _ _ ne h⟩
    · exact .inr h
theorem SR.step {ρ : Option Addr} {σ : L2.St} {env : Ev} {m m' : Mu} (S : SR B O ρ σ H env m) (f : Fr ρ H H') (c : Cell B O ρ H' m') : SR B O ρ σ H' env m' := by
  refine ⟨fun a h => ?_, fun i s e => ?_, c, S.len⟩
  · by_cases z : ρ = some a
    · cases m' with
      | none => rw [show ρ = none from c] at z; cases z
      | some cs =>
        obtain ⟨b, vs, e, _, h', _⟩ := c
        rw [z] at e; cases e
        exact ⟨_, h'⟩
    · obtain ⟨o, e⟩ := S.hot a h
      exact ⟨o, f a o z e⟩
  · obtain ⟨v, e1, r⟩ := S.slot i s e
    exact ⟨v, e1, r.go f (S.goes f)⟩
theorem Cell.grow {ρ : Option Addr} {m : Mu} (c : Cell B O ρ H m) (f : Fr ρ H H') (e : ∀ a, ρ = some a → H' a = H a) : Cell B O ρ H' m := by
  cases m with
  | none => exact c
  | some p =>
    obtain ⟨a, q, e1, o, h, s⟩ := c
    refine ⟨a, q, e1, o, (e a e1).trans h, ?_⟩
    rcases s with ⟨o', s⟩ | s
    · refine .inl ⟨o', f q _ (fun z => ?_) s⟩
      rw [e1] at z; cases z
      rw [h] at s; cases s
    · exact .inr s
/-- under other hot things -/
theorem Cell.hot {ρ : Option Addr} {m : Mu} (c : Cell B O ρ H m) (k : ∀ a, ρ = some a → O' a) : Cell B O' ρ H m := by
  cases m with
  | none => exact c
  | some p =>
    obtain ⟨a, q, e1, o, h, s⟩ := c
    exact ⟨a, q, e1, k a e1, h, s⟩
/-- a new object is tracked -/
theorem Cell.new {ρ : Option Addr} {m : Mu} {p : Addr} {o : HO} (c : Cell B O ρ H m) (n : H p = none) : Cell B O ρ (upd H p o) m := by
  refine c.grow (Fr.upd n) fun a e => ?_
  cases m with
  | none => rw [show ρ = none from c] at e; cases e
  | some cs =>
    obtain ⟨b, vs, e1, _, h, _⟩ := c
    rw [e] at e1; cases e1
    rw [upd_ne (ne_of_none h n)]
theorem Cell.ne {ρ : Option Addr} {m : Mu} {p : Addr} (c : Cell B O ρ H m) (n : H p = none) : ρ ≠ some p := fun e => by
  cases m with
  | none => rw [show ρ = none from c] at e; cases e
  | some cs =>
    obtain ⟨b, vs, e1, _, h, _⟩ := c
    rw [e] at e1; cases e1
    rw [n] at h; cases h
theorem RF.go {H0 : Hp} {ρ : Option Addr} {v : V} {d : PyData} {fl : Fl} (hρ : ∀ a, ρ = some a → O a) (f : Fr ρ H H') (r : RF B O ρ H0 H v d fl) : RF B O ρ H0 H' v d fl := by
  cases fl with
  | c => exact Rp.go (f.goes hρ) _ _ r
  | b =>
    obtain ⟨a, e, n, k⟩ := r
    refine ⟨a, e, n, ?_⟩
    cases k with
    | lst h k => exact .lst (f.rd n h) (Rps.go (f.goes hρ) _ _ k)
    | dic s h nd z k => exact .dic s (f.rd n h) nd z (Ens.go (f.goes hρ) _ _ k)
  | f =>
    obtain ⟨a, e, n, n0, k⟩ := r
    refine ⟨a, e, n, n0, ?_⟩
    have g : Goes (fun b => O b ∨ b = a) (fun b => O b ∨ b = a) H H' := f.goes fun b z => .inl (hρ b z)
    cases k with
    | lst h k => exact .lst (f _ _ n h) (Rps.go g _ _ k)
    | dic s h nd z k => exact .dic s (f _ _ n h) nd z (Ens.go g _ _ k)
/-- it was new ahead of a younger state -/
theorem RF.older {H0 H1 : Hp} {ρ : Option Addr} {v : V} {d : PyData} {fl : Fl} (f : Fr ρ H0 H1) (r : RF B O ρ H1 H v d fl) : RF B O ρ H0 H v d fl := by
  cases fl with
  | c => exact r
  | b => exact r
  | f =>
    obtain ⟨a, e, n, n0, k⟩ := r
    refine ⟨a, e, n, ?_, k⟩
    cases q : H0 a with
    | none => rfl
    | some o => rw [f a o n q] at n0; cases n0
theorem goes_less {a : Addr} : Goes (fun b => O b ∨ b = a) O H H := fun b o n e => ⟨e, fun z => n (.inl z)⟩
theorem goes_more {a : Addr} (n : H a = none) : Goes O (fun b => O b ∨ b = a) H H := fun b o nb e => ⟨e, fun z => z.elim nb fun q => Rd.ne e n q⟩
/-- handed on to a place that keeps it -/
theorem RF.keep {H0 : Hp} {ρ : Option Addr} {v : V} {d d' : PyData} {fl : Fl} (hot : ∀ a, O a → ∃ o, H0 a = some o) (r : RF B O ρ H0 H v d fl) (e : keepD (d, fl) = some d') : d' = d ∧ Rp B O H v d := by
  cases fl with
  | c => exact ⟨by simp [keepD] at e; exact e.symm, r⟩
  | b => simp [keepD] at e
  | f =>
    refine ⟨by simp [keepD] at e; exact e.symm, ?_⟩
    obtain ⟨a, rfl, n, n0, k⟩ := r
    have na : ¬ O a := fun z => by
      obtain ⟨o, q⟩ := hot a z
      rw [n0] at q; cases q
    cases k with
    | lst h k => exact .lst na (.inl h) (Rps.go goes_less _ _ k)
    | dic s h nd z k => exact .dic na s (.inl h) nd z (Ens.go goes_less _ _ k)
theorem RF.bw {H0 : Hp} {ρ : Option Addr} {v : V} {d : PyData} {fl : Fl} (r : RF B O ρ H0 H v d fl) : Rp B O H v d ∨ ∃ a, v = .ref a ∧ Bw B O H a d := by
  cases fl with
  | c => exact .inl r
  | b => obtain ⟨a, e, _, k⟩ := r; exact .inr ⟨a, e, k⟩
  | f =>
    obtain ⟨a, e, _, _, k⟩ := r
    refine .inr ⟨a, e, ?_⟩
    cases k with
    | lst h k => exact .lst (.inl h) (Rps.go goes_less _ _ k)
    | dic s h nd z k => exact .dic s (.inl h) nd z (Ens.go goes_less _ _ k)
theorem RF.int {H0 : Hp} {ρ : Option Addr} {v : V} {i : Int} {fl : Fl} (r : RF B O ρ H0 H v (.int i) fl) : v = .int i := by
  rcases r.bw with r | ⟨a, _, r⟩
  · cases r; rfl
  · cases r
theorem RF.bl {H0 : Hp} {ρ : Option Addr} {v : V} {i : Bool} {fl : Fl} (r : RF B O ρ H0 H v (.bool i) fl) : v = .bl i := by
  rcases r.bw with r | ⟨a, _, r⟩
  · cases r; rfl
  · cases r
theorem RF.str {H0 : Hp} {ρ : Option Addr} {v : V} {i : Str} {fl : Fl} (r : RF B O ρ H0 H v (.str i) fl) : v = .str i := by
  rcases r.bw with r | ⟨a, _, r⟩
  · cases r; rfl
  · cases r
theorem RF.list {H0 : Hp} {ρ : Option Addr} {v : V} {ds : List PyData} {fl : Fl} (r : RF B O ρ H0 H v (.list ds) fl) : ∃ a xs, v = .ref a ∧ Rd H a (.lst xs) ∧ Rps B O H xs ds := by
  rcases r.bw with r | ⟨a, e, r⟩
  · cases r with
    | lst _ h k => exact ⟨_, _, rfl, h, k⟩
  · cases r with
    | lst h k => exact ⟨a, _, e, h, k⟩
theorem RF.tuple {H0 : Hp} {ρ : Option Addr} {v : V} {ds : List PyData} {fl : Fl} (r : RF B O ρ H0 H v (.tuple ds) fl) : ∃ a xs, v = .ref a ∧ SqT B.K H a xs ∧ Rps B O H xs ds := by
  rcases r.bw with r | ⟨a, e, r⟩
  · cases r with
    | tup _ h k => exact ⟨_, _, rfl, sqT_of h, k⟩
    | tupK s k => exact ⟨_, _, rfl, s H, k⟩
  · cases r
theorem RF.dict {H0 : Hp} {ρ : Option Addr} {v : V} {kvs : List (PyData × PyData)} {fl : Fl} (r : RF B O ρ H0 H v (.dict kvs) fl) :
    ∃ a xs, v = .ref a ∧ (a == sysModules) = false ∧ Rd H a (dicO B a xs) ∧ (xs.map (·.1)).Nodup ∧ xs.length ≤ sizeLine ∧ Ens B O H xs kvs := by
  rcases r.bw with r | ⟨a, e, r⟩
  · cases r with
    | dic _ s h nd z k => exact ⟨_, _, rfl, s, h, nd, z, k⟩
  · cases r with
    | dic s h nd z k => exact ⟨a, _, e, s, h, nd, z, k⟩
theorem RF.dp {H0 : Hp} {ρ : Option Addr} {v : V} {d : PyData} {fl : Fl} (r : RF B O ρ H0 H v d fl) (n : noDict d = true) : Dp B.K H v d := by
  rcases r.bw with q | ⟨a, e, q⟩
  · exact Rp.dp _ _ n q
  · rw [e]
    cases q with
    | lst h k => exact .lst (sqL_of h) (Rps.dp _ _ (by simpa [noDict] using n) k)
    | dic => simp [noDict] at n
theorem RF.keepT {H0 H1 : Hp} {ρ : Option Addr} {v : V} {ds : List PyData} {fl : Fl} (r : RF B O ρ H0 H v (.tuple ds) fl) : RF B O ρ H1 H v (.tuple ds) .c := by
  rcases r.bw with r | ⟨a, e, r⟩
  · exact r
  · cases r
/-- a new list -/
theorem RF.newL {H0 : Hp} {ρ : Option Addr} {m : Mu} {p : Addr} {xs : List V} {ds : List PyData} (c : Cell B O ρ H m) (f : Fr ρ H0 H) (n : H p = none) (k : Rps B O H xs ds) : RF B O ρ H0 (upd H p (.lst xs)) (.ref p) (.list ds) .f := by
  have np := c.ne n
  refine ⟨p, rfl, np, ?_, .lst upd_same (Rps.go (fun b o nb e => ⟨(goes_upd (O := O) n b o nb e).1, fun z => z.elim nb fun q => Rd.ne e n q⟩) _ _ k)⟩
  cases q : H0 p with
  | none => rfl
  | some o => rw [f p o np q] at n; cases n
theorem RF.newT {H0 : Hp} {ρ : Option Addr} {m : Mu} {p : Addr} {xs : List V} {ds : List PyData} (c : Cell B O ρ H m) (hot : ∀ a, O a → ∃ o, H a = some o) (n : H p = none) (k : Rps B O H xs ds) : RF B O ρ H0 (upd H p (.tup xs)) (.ref p) (.tuple ds) .c := by
  refine .tup (fun z => ?_) (.inl upd_same) (Rps.go (goes_upd n) _ _ k)
  obtain ⟨o, q⟩ := hot p z
  rw [n] at q; cases q
end
end Tw
set_option Elab.async false
set_option linter.all false
set_option maxRecDepth 100000
set_option maxHeartbeats 1000000
/-! The evaluator's expressions are what the model does: the simple ones. -/
namespace Tw
open PySem PySem.Spec PyProof.Rows L2

/-- an exception of the class named c, with its fields -/
def XR (B : Bs) (mg : Str → Option Value) (H : Hp) (cls : Value) (d : Option Addr) (c : Str) (fs : List (Str × PyData)) : Prop :=
  mg c = some cls ∧ match fs with
    | [] => True
    | (f, x) :: _ => ∃ dd v, d = some dd ∧ H dd = some (.xd [(f, v)]) ∧ Rp B (fun _ => False) H v x
/-- what is known at a place -/
structure Pl where
  B : Bs
  mg : Str → Option Value
  O : Hot
  ρ : Option Addr
  W : WX
/-- the result of the evaluator, ahead of which H stood -/
def Pg {α : Type} (L : Pl) (σ : L2.St) (H : Hp) (R : α → Mu → Prop) : Out α → Prop
  | .ok a m => R a m
  | .ex c fs m => ∀ cls d H', Fr L.ρ H H' → Cell L.B L.O L.ρ H' m → XR L.B L.mg H' cls d c fs → L.W cls d σ H'
  | .bad => False
theorem Pg.bind {α β : Type} {L : Pl} {σ : L2.St} {H : Hp} {R : β → Mu → Prop} {x : Out α} {k : α → Mu → Out β} (h : Pg L σ H R (x.bind k)) : Pg L σ H (fun a m => Pg L σ H R (k a m)) x := by
  cases x <;> exact h
theorem Pg.mono {α : Type} {L : Pl} {σ : L2.St} {H : Hp} {R R' : α → Mu → Prop} {x : Out α} (h : Pg L σ H R x) (k : ∀ a m, x = .ok a m → R a m → R' a m) : Pg L σ H R' x := by
  cases x with
  | ok a m => exact k a m rfl h
  | ex c fs m => exact h
  | bad => exact h
theorem Pg.move {α : Type} {L : Pl} {σ : L2.St} {H H1 : Hp} {R R' : α → Mu → Prop} {x : Out α} (h : Pg L σ H R x) (f : Fr L.ρ H H1) (k : ∀ a m, R a m → R' a m) : Pg L σ H1 R' x := by
  cases x with
  | ok a m => exact k a m h
  | ex c fs m => exact fun cls d H' g => h cls d H' (f.trans g)
  | bad => exact h
/-- a value's wish -/
def Vq (L : Pl) (H : Hp) (Q : VK) (p : PyData × Fl) (m : Mu) : Prop := ∀ v H', Fr L.ρ H H' → Cell L.B L.O L.ρ H' m → RF L.B L.O L.ρ H H' v p.1 p.2 → Q v H'
theorem Vq.move {L : Pl} {H H1 : Hp} {Q : VK} (f : Fr L.ρ H H1) (p : PyData × Fl) (m : Mu) (h : Vq L H Q p m) : Vq L H1 Q p m := fun v H' g c r => h v H' (f.trans g) c (r.older f)
def tV (B : Bs) (mg : Str → Option Value) (W : WX) (f : Ev → Mu → Out (PyData × Fl)) : TE := fun σ H Q => ∃ O ρ env m, SR B O ρ σ H env m ∧ Pg ⟨B, mg, O, ρ, W⟩ σ H (Vq ⟨B, mg, O, ρ, W⟩ H Q) (f env m)
/-- a test's wish -/
def Tq (L : Pl) (H : Hp) (Q : Bool → Hp → Prop) (p : PyData × Fl) (m : Mu) : Prop := ∃ k, p.1 = .bool k ∧ ∀ H', Fr L.ρ H H' → Cell L.B L.O L.ρ H' m → Q k H'
theorem Tq.move {L : Pl} {H H1 : Hp} {Q : Bool → Hp → Prop} (f : Fr L.ρ H H1) (p : PyData × Fl) (m : Mu) (h : Tq L H Q p m) : Tq L H1 Q p m := by
  obtain ⟨k, e, q⟩ := h
  exact ⟨k, e, fun H' g c => q H' (f.trans g) c⟩
def tT (B : Bs) (mg : Str → Option Value) (W : WX) (f : Ev → Mu → Out (PyData × Fl)) : TT := fun σ H Q => ∃ O ρ env m, SR B O ρ σ H env m ∧ Pg ⟨B, mg, O, ρ, W⟩ σ H (Tq ⟨B, mg, O, ρ, W⟩ H Q) (f env m)

section
variable {B : Bs} {mg : Str → Option Value} {W : WX} {σ : L2.St} {H : Hp}
abbrev EvF := Ev → Mu → Out (PyData × Fl)
/-- one part first -/
theorem tV.part {f : EvF} {R : VK} {O : Hot} {ρ : Option Addr} {env : Ev} {m : Mu} {X : PyData × Fl → Mu → Prop} (S : SR B O ρ σ H env m) (h : Pg ⟨B, mg, O, ρ, W⟩ σ H X (f env m))
    (k : ∀ p m1 v H1, SR B O ρ σ H1 env m1 → Fr ρ H H1 → RF B O ρ H H1 v p.1 p.2 → X p m1 → R v H1) : tV B mg W f σ H R :=
  ⟨O, ρ, env, m, S, h.mono fun p m1 _ x v H1 f1 c1 r1 => k p m1 v H1 (S.step f1 c1) f1 r1 x⟩
theorem tV.one {f : EvF} {g : PyData × Fl → Option (PyData × Fl)} {Q R : VK} (h : tV B mg W (fun env m => (f env m).bind fun p m => .of (g p) m) σ H Q)
    (k : ∀ O ρ env m H1 v p q, SR B O ρ σ H1 env m → RF B O ρ H1 H1 v p.1 p.2 ∨ RF B O ρ H H1 v p.1 p.2 → g p = some q → (∀ w H', Fr ρ H1 H' → Cell B O ρ H' m → RF B O ρ H1 H' w q.1 q.2 → Q w H') → R v H1) : tV B mg W f σ H R := by
  obtain ⟨O, ρ, env, m, S, h⟩ := h
  refine tV.part S h.bind fun p m1 v H1 S1 f1 r1 x => ?_
  cases e : g p with
  | none => rw [e] at x; exact x.elim
  | some q =>
    rw [e] at x
    exact k O ρ env m1 H1 v p q S1 (.inr r1) e fun w H' f2 c2 r2 => x w H' (f1.trans f2) c2 (r2.older f1)
/-- an operator's two parts -/
theorem tV.two {f g : EvF} {op : PyData × Fl → PyData × Fl → Option (PyData × Fl)} {Q : VK} {R : V → V → Hp → Prop}
    (h : tV B mg W (fun env m => (f env m).bind fun p m => (g env m).bind fun q m => .of (op p q) m) σ H Q)
    (k : ∀ O ρ env m H0 H1 v u p q r, SR B O ρ σ H1 env m → RF B O ρ H0 H1 v p.1 p.2 → RF B O ρ H0 H1 u q.1 q.2 → op p q = some r → (∀ w H', Fr ρ H1 H' → Cell B O ρ H' m → RF B O ρ H1 H' w r.1 r.2 → Q w H') → R v u H1) :
    tV B mg W f σ H fun x H1 => tV B mg W g σ H1 fun y H2 => R x y H2 := by
  obtain ⟨O, ρ, env, m, S, h⟩ := h
  refine tV.part S h.bind fun p m1 v H1 S1 f1 r1 x => ?_
  refine tV.part S1 (x.move f1 fun _ _ z => z).bind fun q m2 u H2 S2 f2 r2 y => ?_
  cases e : op p q with
  | none => rw [e] at y; exact y.elim
  | some r =>
    rw [e] at y
    exact k O ρ env m2 H H2 v u p q r S2 (r1.go S1.cell.hρ f2) (r2.older f1) e fun w H' f3 c3 r3 => y w H' (f1.trans (f2.trans f3)) c3 (r3.older (f1.trans f2))
end

/-- what is known of a context -/
structure Glo where
  consts : List (Str × PyData)
  fns : List (Str × Nat × Nat)
/-- a def's promise: what the evaluator says of it -/
def ArgR (B : Bs) (O : Hot) (ρ : Option Addr) (H : Hp) (v : V) : Vl → Prop
  | .d x => Rp B O H v x
  | .cell => ∃ a, ρ = some a ∧ v = .ref a
inductive ArgRs (B : Bs) (O : Hot) (ρ : Option Addr) (H : Hp) : List V → List Vl → Prop
  | nil : ArgRs B O ρ H [] []
  | cons {v : V} {vs : List V} {x : Vl} {xs : List Vl} : ArgR B O ρ H v x → ArgRs B O ρ H vs xs → ArgRs B O ρ H (v :: vs) (x :: xs)
theorem ArgR.go {B : Bs} {O : Hot} {ρ : Option Addr} {H H' : Hp} {v : V} {x : Vl} (g : Goes O O H H') (r : ArgR B O ρ H v x) : ArgR B O ρ H' v x := by
  cases x with
  | d x => exact Rp.go g _ _ r
  | cell => exact r
theorem ArgRs.length {B : Bs} {O : Hot} {ρ : Option Addr} {H : Hp} : ∀ {vs : List V} {xs : List Vl}, ArgRs B O ρ H vs xs → vs.length = xs.length
  | _, _, .nil => rfl
  | _, _, .cons _ r => by simp [r.length]
def spC (B : Bs) (mg : Str → Option Value) (C : Calls) (np : Nat) (f : Nat) : Sp := fun vs H Q E => vs.length = np ∧ ∃ (O : Hot) (ρ : Option Addr) (xs : List Vl) (m : Mu), (∀ a, O a → ∃ o, H a = some o) ∧ Cell B O ρ H m ∧ ArgRs B O ρ H vs xs ∧
  match C f xs m with
  | .ok d m' => ∀ v H', Fr ρ H H' → Cell B O ρ H' m' → Rp B O H' v d → Q v H'
  | .ex c fs m' => ∀ cls d H', Fr ρ H H' → Cell B O ρ H' m' → XR B mg H' cls d c fs → E cls d H'
  | .bad => False
def bltNames : List Str := ["range", "len", "sorted", "set", "tuple", "list", "max", "min", "sum", "abs", "int", "str", "enumerate", "zip", "isinstance", "bool", "dict"]
structure Ck where
  G : Glo
  N : List Str
  sc : Scope
  fnc : Str → Bool
structure Cok (X : Cx) (c : Ck) (C : Calls) (n : Nat) (W : WX) : Prop where
  hN : X.N = c.N
  hsc : X.env.scope = c.sc
  nd : c.N.Nodup
  calm : X.calm = true
  hfn : X.fn = c.fnc
  room : Room n X.A
  takes : Takes X W
  blt : ∀ x ∈ bltNames, X.mg x = none
  cns : ∀ p ∈ c.G.consts, ∃ v u, X.mg p.1 = some u ∧ RelV v u ∧ ∀ O H, Rp (bsOf X) O H v p.2
  fns : ∀ p ∈ c.G.fns, ∃ a fd ps, X.mg p.1 = some (.ref a) ∧ PySem.W.keepIn X.K (.ref a) = true ∧ Binds X.K fd ps [] ∧ ps.length = p.2.2 ∧ FnOk X.prog X.w X.K X.mg X.base (L2.CX X.prog X.w) n a fd ps (spC (bsOf X) X.mg C p.2.2 p.2.1)
/-- an expression is as the evaluator says -/
def VE (X : Cx) (W : WX) (e : Expr) (f : EvF) : Prop := PE X e (tV (bsOf X) X.mg W f)
def VT (X : Cx) (W : WX) (e : Expr) (f : EvF) : Prop := PT X e (tT (bsOf X) X.mg W f)

theorem PE.imp {X : Cx} {e : Expr} {t t' : TE} (h : PE X e t) (k : ∀ σ H Q, t' σ H Q → t σ H Q) : PE X e t' := ⟨fun pins s σ H Q I q => h.run pins s σ H Q I (k σ H Q q)⟩
theorem PT.imp {X : Cx} {e : Expr} {t t' : TT} (h : PT X e t) (k : ∀ σ H Q, t' σ H Q → t σ H Q) : PT X e t' := ⟨fun pins s σ H Q I q => h.run pins s σ H Q I (k σ H Q q)⟩
theorem PA.imp {X : Cx} {e : List Expr} {t t' : TA} (h : PA X e t) (k : ∀ σ H Q, t' σ H Q → t σ H Q) : PA X e t' := ⟨fun pos pins s σ H Q I q => h.run pos pins s σ H Q I (k σ H Q q)⟩
/-- a test whose expression gives a bool -/
theorem vt_of {X : Cx} {W : WX} {e : Expr} {f : EvF} (h : VE X W e f) (he : ∀ whole, isTrue e X.env whole = (do let v ← whole; standAt e.pos; holding [v] (truthy v))) : VT X W e f := by
  refine PT.imp (pt_val h he) fun σ H Q q => ?_
  obtain ⟨O, ρ, env, m, S, h⟩ := q
  refine ⟨O, ρ, env, m, S, h.mono fun p m1 _ x v H1 f1 c1 r1 => ?_⟩
  obtain ⟨k, e, q⟩ := x
  rw [e] at r1
  exact ⟨k, r1.bl, q H1 f1 c1⟩

section
variable {X : Cx} {W : WX} {c : Ck} {C : Calls} {n : Nat} {e a b : Expr} {pos p2 : Pos} {x y z : Ex}

def visB (c : Ck) (i : Nat) (x : Str) : Bool := decide (c.N[i]? = some x) && (match c.sc.names.lookup x with | some .local => true | some .cell => true | some .free => true | _ => false) && !(x == ("__debug__" : Str)) && !(x == ("__classdict__" : Str))
theorem visB_ok {i : Nat} {x : Str} (k : Cok X c C n W) (h : visB c i x = true) : X.N[i]? = some x ∧ Vis X.env.scope x ∧ (x == ("__debug__" : Str)) = false ∧ (x == ("__classdict__" : Str)) = false := by
  unfold visB at h
  simp only [Bool.and_eq_true, Bool.not_eq_true', decide_eq_true_eq] at h
  obtain ⟨⟨⟨h1, h2⟩, h3⟩, h4⟩ := h
  refine ⟨by rw [k.hN]; exact h1, ?_, h3, h4⟩
  unfold Vis
  rw [k.hsc]
  split at h2
  · exact .inl ‹_›
  · exact .inr (.inl ‹_›)
  · exact .inr (.inr ‹_›)
  · cases h2
theorem ve_var {i : Nat} {x : Str} (k : Cok X c C n W) (h : visB c i x = true) : VE X W (.Name x pos) (ev C (.var i)) := by
  obtain ⟨h1, h2, h3, h4⟩ := visB_ok k h
  refine PE.imp (pe_var h1 h2 h3 h4) fun σ H Q q => ?_
  obtain ⟨O, ρ, env, m, S, q⟩ := q
  rw [ev] at q
  cases e : getS env i with
  | none => rw [e] at q; exact q.elim
  | some s =>
    rw [e] at q
    have e' : env[i]? = some (some s) := by
      unfold getS at e
      split at e
      · cases e; assumption
      · cases e
    obtain ⟨v, hv, r⟩ := S.slot i s e'
    refine ⟨v, hv, ?_⟩
    cases s with
    | v d => exact q v H (.refl _ _) S.cell r
    | o xs =>
      obtain ⟨a, vs, e1, o, ne, h, k⟩ := r
      exact q v H (.refl _ _) S.cell ⟨a, e1, ne, .lst (.inl h) k⟩
    | od kvs =>
      obtain ⟨a, xs, e1, o, ne, sm, h, nd, z, k⟩ := r
      exact q v H (.refl _ _) S.cell ⟨a, e1, ne, .dic sm (.inl h) nd z k⟩
    | cell => exact q.elim
    | scr ns => exact q.elim
theorem tV.ret {d : PyData × Fl} {f : EvF} {σ : L2.St} {H : Hp} {Q : VK} {B : Bs} {mg : Str → Option Value} (h : tV B mg W f σ H Q) (hf : ∀ env m, f env m = .ok d m) (v : V) (r : ∀ O ρ, RF B O ρ H H v d.1 d.2) : Q v H := by
  obtain ⟨O, ρ, env, m, S, q⟩ := h
  rw [hf] at q
  exact q v H (.refl _ _) S.cell (r O ρ)
theorem ve_int {i : Int} {j : Nat} : VE X W (.Constant (.int i) j pos) (ev C (.lit (.int i))) := PE.imp pe_int fun σ H Q q => q.ret (d := (.int i, .c)) (fun _ _ => by rw [ev]) (.int i) fun _ _ => Rp.int i
theorem ve_bl {i : Bool} {j : Nat} : VE X W (.Constant (.bool i) j pos) (ev C (.lit (.bool i))) := PE.imp pe_bl fun σ H Q q => q.ret (d := (.bool i, .c)) (fun _ _ => by rw [ev]) (.bl i) fun _ _ => Rp.bl i
theorem ve_non {j : Nat} : VE X W (.Constant .none j pos) (ev C (.lit .none)) := PE.imp pe_non fun σ H Q q => q.ret (d := (.none, .c)) (fun _ _ => by rw [ev]) .non fun _ _ => Rp.non
theorem ve_str {i : Str} {j : Nat} : VE X W (.Constant (.str i) j pos) (ev C (.lit (.str i))) := PE.imp pe_str fun σ H Q q => q.ret (d := (.str i, .c)) (fun _ _ => by rw [ev]) (.str i) fun _ _ => Rp.str i
def glB (c : Ck) (x : Str) : Bool := (match c.sc.names.lookup x with | some .globalImplicit => true | _ => false) && !(x == ("__debug__" : Str))
theorem glB_ok {x : Str} (k : Cok X c C n W) (h : glB c x = true) : Gl X x ∧ (x == ("__debug__" : Str)) = false := by
  unfold glB at h
  simp only [Bool.and_eq_true, Bool.not_eq_true'] at h
  refine ⟨?_, h.2⟩
  unfold Gl Env.kindOf
  rw [k.hsc]
  have h1 := h.1
  split at h1
  · assumption
  · cases h1
theorem ve_glob {x : Str} {d : PyData} (k : Cok X c C n W) (h : glB c x = true) (hm : (x, d) ∈ c.G.consts) : VE X W (.Name x pos) (ev C (.glob x d)) := by
  obtain ⟨h1, h2⟩ := glB_ok k h
  obtain ⟨v, u, e1, r, rp⟩ := k.cns _ hm
  exact PE.imp (pe_glob h1 e1 r h2) fun σ H Q q => q.ret (d := (d, .c)) (fun _ _ => by rw [ev]) v fun _ _ => rp _ _

/-! ### ints -/
theorem big_line : big ≤ sizeLine := by rw [sizeLine_eq]; decide
theorem sz_ok {n : Nat} (h : sz n = true) : n ≤ sizeLine := Nat.le_trans (of_decide_eq_true h) big_line
theorem sz_lt {n : Nat} (h : sz n = true) : n < sizeLine := Nat.lt_of_le_of_lt (of_decide_eq_true h) (by rw [sizeLine_eq]; decide)
theorem ve_bin {o : Bo} {op : Operator} {r : R2} (ho : OpR X (binaryOp op) r) (ha : VE X W a (ev C x)) (hb : VE X W b (ev C y))
    (hk : ∀ O ρ σ env m H0 H1 v u d e fd fe q Q, SR (bsOf X) O ρ σ H1 env m → RF (bsOf X) O ρ H0 H1 v d fd → RF (bsOf X) O ρ H0 H1 u e fe → binD o d e = some q → (∀ w H', Fr ρ H1 H' → Cell (bsOf X) O ρ H' m → RF (bsOf X) O ρ H1 H' w q.1 q.2 → Q w H') → r v u H1 Q) :
    VE X W (.BinOp a op b pos) (ev C (.bin o x y)) := by
  refine PE.imp (pe_op ho ha hb) fun σ H Q q => ?_
  refine tV.two (op := fun p q => binD o p.1 q.1) (by simpa only [ev] using q) fun O ρ env m H0 H1 v u p q r S r1 r2 e k => ?_
  exact hk O ρ σ env m H0 H1 v u p.1 q.1 p.2 q.2 r Q S r1 r2 e k
theorem cat_ok : OpR X (binaryOp .Add) (fun x y H Q => ∃ l b xs zs, x = .ref l ∧ y = .ref b ∧ Rd H l (.lst xs) ∧ Rd H b (.lst zs) ∧ xs.length + zs.length ≤ sizeLine ∧ ∀ p, H p = none → Q (.ref p) (upd H p (.lst (xs ++ zs)))) := by
  intro pins s σ H x y v u Q I rx ry h
  obtain ⟨l, b, xs, zs, rfl, rfl, hH, hB, hz, q⟩ := h
  cases rx
  cases ry
  obtain ⟨z, its, n, r, e⟩ := hH.ok I.hok
  obtain ⟨z2, its2, n2, r2, e2⟩ := hB.ok I.hok
  have hl := r.length
  have hl2 := r2.length
  refine PySem.P.add_list e e2 ?_ (by rw [List.size_toArray, List.size_toArray]; omega)
  have ea : its.toArray ++ its2.toArray = (its ++ its2).toArray := by simp
  rw [ea]
  exact ⟨.ref _, _, I.lnew (t' := s.toks) (r.append r2) (by rw [List.length_append]; omega), rfl, q _ I.fresh⟩
theorem ve_add (k : Cok X c C n W) (ha : VE X W a (ev C x)) (hb : VE X W b (ev C y)) : VE X W (.BinOp a .Add b pos) (ev C (.bin .add x y)) := by
  refine ve_bin (((op_add.or cat_ok).or op_catA).or op_add_str) ha hb fun O ρ σ env m H0 H1 v u d e fd fe q Q S r1 r2 hq k => ?_
  unfold binD at hq
  split at hq <;> try (cases hq; done)
  all_goals try (rename_i h0; cases h0; done)
  all_goals (first | (have hq := Option.some.inj hq; subst hq) | skip)
  · exact .inl (.inl (.inl ⟨_, _, r1.int, r2.int, k _ _ (.refl _ _) S.cell (Rp.int _)⟩))
  · rename_i xs ys _
    unfold catD at hq
    split at hq
    · rename_i hz
      cases hq
      obtain ⟨l, vs, rfl, h1, k1⟩ := r1.list
      obtain ⟨l2, us, rfl, h2, k2⟩ := r2.list
      refine .inl (.inl (.inr ⟨l, l2, vs, us, rfl, rfl, h1, h2, by rw [k1.length, k2.length]; exact sz_ok hz, fun p np => ?_⟩))
      exact k _ _ (.upd np) (S.cell.new np) (RF.newL S.cell (.refl _ _) np (k1.append k2))
    · cases hq
  · rename_i xs ys _
    unfold catD at hq
    split at hq
    · rename_i hz
      cases hq
      obtain ⟨l, vs, rfl, h1, k1⟩ := r1.tuple
      obtain ⟨l2, us, rfl, h2, k2⟩ := r2.tuple
      refine .inl (.inr ⟨l, l2, vs, us, rfl, rfl, h1, h2, by rw [k1.length, k2.length]; exact sz_ok hz, fun e => ?_, fun _ e => ?_, fun _ _ p np => ?_⟩)
      · subst e
        cases k1
        exact k _ _ (.refl _ _) S.cell (RF.keepT r2)
      · subst e
        cases k2
        rw [List.append_nil] at k
        exact k _ _ (.refl _ _) S.cell (RF.keepT r1)
      · exact k _ _ (.upd np) (S.cell.new np) (RF.newT S.cell S.hot np (k1.append k2))
    · cases hq
  · rename_i z w _
    split at hq
    · rename_i hz
      cases hq
      exact .inr ⟨_, _, r1.str, r2.str, sz_ok hz, k _ _ (.refl _ _) S.cell (Rp.str _)⟩
    · cases hq

theorem ve_sub (k : Cok X c C n W) (ha : VE X W a (ev C x)) (hb : VE X W b (ev C y)) : VE X W (.BinOp a .Sub b pos) (ev C (.bin .sub x y)) := by
  refine ve_bin op_sub ha hb fun O ρ σ env m H0 H1 v u d e fd fe q Q S r1 r2 hq k => ?_
  unfold binD at hq
  split at hq <;> try (cases hq; done)
  all_goals try (rename_i h0; cases h0; done)
  cases hq
  exact ⟨_, _, r1.int, r2.int, k _ _ (.refl _ _) S.cell (Rp.int _)⟩
theorem ve_fdiv (k : Cok X c C n W) (ha : VE X W a (ev C x)) (hb : VE X W b (ev C y)) : VE X W (.BinOp a .FloorDiv b pos) (ev C (.bin .fdiv x y)) := by
  refine ve_bin op_fdiv ha hb fun O ρ σ env m H0 H1 v u d e fd fe q Q S r1 r2 hq k => ?_
  unfold binD at hq
  split at hq <;> try (cases hq; done)
  all_goals try (rename_i h0; cases h0; done)
  split at hq
  · rename_i i j _ hz
    cases hq
    simp only [Bool.and_eq_true, decide_eq_true_eq] at hz
    exact ⟨_, _, r1.int, r2.int, hz, k _ _ (.refl _ _) S.cell (Rp.int _)⟩
  · cases hq
theorem ve_mod (k : Cok X c C n W) (ha : VE X W a (ev C x)) (hb : VE X W b (ev C y)) : VE X W (.BinOp a .Mod b pos) (ev C (.bin .mod x y)) := by
  refine ve_bin op_mod ha hb fun O ρ σ env m H0 H1 v u d e fd fe q Q S r1 r2 hq k => ?_
  unfold binD at hq
  split at hq <;> try (cases hq; done)
  all_goals try (rename_i h0; cases h0; done)
  split at hq
  · rename_i i j _ hz
    cases hq
    exact ⟨_, _, r1.int, r2.int, of_decide_eq_true hz, k _ _ (.refl _ _) S.cell (Rp.int _)⟩
  · cases hq
theorem ve_pow (k : Cok X c C n W) (ha : VE X W a (ev C x)) (hb : VE X W b (ev C y)) : VE X W (.BinOp a .Pow b pos) (ev C (.bin .pow x y)) := by
  refine ve_bin op_pow ha hb fun O ρ σ env m H0 H1 v u d e fd fe q Q S r1 r2 hq k => ?_
  unfold binD at hq
  split at hq <;> try (cases hq; done)
  all_goals try (rename_i h0; cases h0; done)
  split at hq
  · rename_i i j _ hz
    cases hq
    simp only [Bool.and_eq_true, decide_eq_true_eq] at hz
    exact ⟨_, _, r1.int, r2.int, ⟨hz.1.1, by omega, hz.2⟩, k _ _ (.refl _ _) S.cell (Rp.int _)⟩
  · cases hq
theorem ve_shl (k : Cok X c C n W) (ha : VE X W a (ev C x)) (hb : VE X W b (ev C y)) : VE X W (.BinOp a .LShift b pos) (ev C (.bin .shl x y)) := by
  refine ve_bin op_shl ha hb fun O ρ σ env m H0 H1 v u d e fd fe q Q S r1 r2 hq k => ?_
  unfold binD at hq
  split at hq <;> try (cases hq; done)
  all_goals try (rename_i h0; cases h0; done)
  split at hq
  · rename_i i j _ hz
    cases hq
    simp only [Bool.and_eq_true, decide_eq_true_eq] at hz
    exact ⟨_, _, r1.int, r2.int, ⟨hz.1.1, by omega, hz.2⟩, k _ _ (.refl _ _) S.cell (Rp.int _)⟩
  · cases hq
theorem ve_neg (ha : VE X W a (ev C x)) : VE X W (.UnaryOp .USub a pos) (ev C (.neg x)) := by
  refine PE.imp (pe_un un_neg ha) fun σ H Q q => ?_
  refine tV.one (g := fun p => (intOf p.1).map fun i => (.int (-i), .c)) (by simpa only [ev] using q) fun O ρ env m H1 v p q S r e k => ?_
  obtain ⟨d, fl⟩ := p
  cases d with
  | int i =>
    cases e
    exact ⟨i, r.elim RF.int RF.int, k _ _ (.refl _ _) S.cell (Rp.int _)⟩
  | _ => cases e

/-! ### == and the order -/
mutual
theorem eqv_beq : ∀ a b : PyData, noB a = true → noB b = true → noDict a = true → PyData.eqv a b = beqD a b
  | .none, b, _, hb, _ => by cases b <;> simp [PyData.eqv, beqD]
  | .bool _, _, ha, _, _ => by simp [noB] at ha
  | .int _, b, _, hb, _ => by cases b <;> simp [PyData.eqv, beqD, noB] at hb ⊢
  | .str _, b, _, hb, _ => by
    cases b with
    | str y => simp only [PyData.eqv, beqD]; rw [Bool.eq_iff_iff]; simp
    | _ => simp [PyData.eqv, beqD]
  | .list xs, b, ha, hb, hd => by
    cases b with
    | list ys => simp only [PyData.eqv, beqD]; exact eqv_beqs xs ys (by simpa [noB] using ha) (by simpa [noB] using hb) (by simpa [noDict] using hd)
    | _ => simp [PyData.eqv, beqD]
  | .tuple xs, b, ha, hb, hd => by
    cases b with
    | tuple ys => simp only [PyData.eqv, beqD]; exact eqv_beqs xs ys (by simpa [noB] using ha) (by simpa [noB] using hb) (by simpa [noDict] using hd)
    | _ => simp [PyData.eqv, beqD]
  | .dict _, _, _, _, hd => by simp [noDict] at hd
theorem eqv_beqs : ∀ a b : List PyData, noBs a = true → noBs b = true → noDicts a = true → PyData.eqvAll a b = beqDs a b
  | [], b, _, _, _ => by cases b <;> simp [PyData.eqvAll, beqDs]
  | x :: xs, b, ha, hb, hd => by
    cases b with
    | nil => simp [PyData.eqvAll, beqDs]
    | cons y ys =>
      simp only [noBs, Bool.and_eq_true] at ha hb
      simp only [noDicts, Bool.and_eq_true] at hd
      simp only [PyData.eqvAll, beqDs, eqv_beq x y ha.1 hb.1 hd.1, eqv_beqs xs ys ha.2 hb.2 hd.2]
end
mutual
theorem noDict_lay : ∀ d : PyData, d.canLay0 = true → noDict d = true
  | .none, _ => rfl
  | .bool _, _ => rfl
  | .int _, _ => rfl
  | .str _, _ => rfl
  | .list xs, h => by simp only [PyData.canLay0] at h; simp only [noDict]; exact noDicts_lay xs h
  | .tuple xs, h => by simp only [PyData.canLay0] at h; simp only [noDict]; exact noDicts_lay xs h
  | .dict _, h => by simp [PyData.canLay0] at h
theorem noDicts_lay : ∀ ds : List PyData, PyData.canLayAll0 ds = true → noDicts ds = true
  | [], _ => rfl
  | x :: xs, h => by
    simp only [PyData.canLayAll0, Bool.and_eq_true] at h
    simp only [noDicts, noDict_lay x h.1, noDicts_lay xs h.2, Bool.and_self]
end
theorem noDict_shaped {d : PyData} (h : SeqAt.shaped d = true) : noDict d = true := noDict_lay d (SeqAt.canLay_of_shaped h)
theorem eqD_ok {d e : PyData} {k : Bool} (h : eqD d e = some k) : noDict d = true ∧ noDict e = true ∧ SeqAt.shaped d = true ∧ SeqAt.shaped e = true ∧ PyData.eqv d e = k := by
  unfold eqD at h
  split at h
  · cases h
    refine ⟨rfl, rfl, ?_, ?_, rfl⟩ <;> exact Bool.and_eq_true_iff.mpr ⟨rfl, by simp [PyData.depth]⟩
  · split at h
    · rename_i hz
      simp only [Bool.and_eq_true] at hz
      obtain ⟨⟨⟨h1, h2⟩, h3⟩, h4⟩ := hz
      cases h
      exact ⟨noDict_shaped h3, noDict_shaped h4, h3, h4, eqv_beq d e h1 h2 (noDict_shaped h3)⟩
    · cases h
theorem ve_cmp {o : Co} {op : CmpOp} {r : R2} (ho : OpR X (compareOp op) r) (hm : behindInMarks op b = false) (ha : VE X W a (ev C x)) (hb : VE X W b (ev C y))
    (hk : ∀ O ρ σ env m H0 H1 v u d e fd fe q Q, SR (bsOf X) O ρ σ H1 env m → RF (bsOf X) O ρ H0 H1 v d fd → RF (bsOf X) O ρ H0 H1 u e fe → cmpD o d e = some q → Q (.bl q) H1 → r v u H1 Q) :
    VE X W (.Compare a [op] [b] pos) (ev C (.cmp o x y)) ∧ VT X W (.Compare a [op] [b] pos) (ev C (.cmp o x y)) := by
  constructor
  · refine PE.imp (pe_cmpR ho ha hb hm) fun σ H Q q => ?_
    refine tV.two (op := fun p q => (cmpD o p.1 q.1).map fun k => (.bool k, .c)) (by simpa only [ev] using q) fun O ρ env m H0 H1 v u p q r S r1 r2 e k => ?_
    cases e' : cmpD o p.1 q.1 with
    | none => rw [e'] at e; cases e
    | some z =>
      rw [e'] at e; cases e
      exact hk O ρ σ env m H0 H1 v u p.1 q.1 p.2 q.2 z Q S r1 r2 e' (k _ _ (.refl _ _) S.cell (Rp.bl _))
  · refine PT.imp (pt_cmpR ho ha hb hm) fun σ H Q q => ?_
    refine tV.two (op := fun p q => (cmpD o p.1 q.1).map fun k => (.bool k, .c)) (Q := fun x H' => ∃ k, x = .bl k ∧ Q k H') ?_ fun O ρ env m H0 H1 v u p q r S r1 r2 e k => ?_
    · obtain ⟨O, ρ, env, m, S, q⟩ := q
      refine ⟨O, ρ, env, m, S, ?_⟩
      rw [ev] at q
      refine q.mono fun p m1 _ x v H1 f1 c1 r1 => ?_
      obtain ⟨k, e, q⟩ := x
      rw [e] at r1
      exact ⟨k, r1.bl, q H1 f1 c1⟩
    cases e' : cmpD o p.1 q.1 with
    | none => rw [e'] at e; cases e
    | some z =>
      rw [e'] at e; cases e
      exact hk O ρ σ env m H0 H1 v u p.1 q.1 p.2 q.2 z _ S r1 r2 e' (k _ _ (.refl _ _) S.cell (Rp.bl _))
theorem Cok.hu (k : Cok X c C n W) : X.A.units + 64 < cLine := k.room.units
theorem ve_eq (k : Cok X c C n W) (ha : VE X W a (ev C x)) (hb : VE X W b (ev C y)) : VE X W (.Compare a [.Eq] [b] pos) (ev C (.cmp .eq x y)) ∧ VT X W (.Compare a [.Eq] [b] pos) (ev C (.cmp .eq x y)) :=
  ve_cmp (op_eqD k.hu) (nomark _) ha hb fun O ρ σ env m H0 H1 v u d e fd fe q Q S r1 r2 hq hQ => by
    obtain ⟨n1, n2, s1, s2, e⟩ := eqD_ok (show eqD d e = some q from hq)
    exact ⟨d, _, r1.dp n1, r2.dp n2, s1, s2, by rw [e]; exact hQ⟩
theorem ve_ne (k : Cok X c C n W) (ha : VE X W a (ev C x)) (hb : VE X W b (ev C y)) : VE X W (.Compare a [.NotEq] [b] pos) (ev C (.cmp .ne x y)) ∧ VT X W (.Compare a [.NotEq] [b] pos) (ev C (.cmp .ne x y)) :=
  ve_cmp (op_neD k.hu) (nomark _) ha hb fun O ρ σ env m H0 H1 v u d e fd fe q Q S r1 r2 hq hQ => by
    have hq : (eqD d e).map (!·) = some q := hq
    cases e' : eqD d e with
    | none => rw [e'] at hq; cases hq
    | some z =>
      rw [e'] at hq; cases hq
      obtain ⟨n1, n2, s1, s2, e⟩ := eqD_ok e'
      exact ⟨d, _, r1.dp n1, r2.dp n2, s1, s2, by rw [e]; exact hQ⟩
end
end Tw
set_option Elab.async false
set_option linter.all false
set_option maxRecDepth 100000
set_option maxHeartbeats 1000000
/-! The order of data. -/
namespace Tw
open PySem PySem.Spec PyProof.Rows L2
def lexD (f : PyData → PyData → Bool) (zz : Nat → Nat → Bool) : List PyData → List PyData → Bool
  | x :: xs, y :: ys => if beqD x y = true then lexD f zz xs ys else f x y
  | xs, ys => zz xs.length ys.length
theorem lexAt_lexD (f : PyData → PyData → Bool) (zz : Nat → Nat → Bool) (hz : ∀ m n, zz (m + 1) (n + 1) = zz m n) (e r : Nat → Bool) : ∀ (xs ys : List PyData) (i : Nat), (∀ j x y, xs[j]? = some x → ys[j]? = some y → e (i + j) = beqD x y ∧ r (i + j) = f x y) →
    Ob.lexAt e r (zz xs.length ys.length) i (min xs.length ys.length) = lexD f zz xs ys
  | [], ys, i, _ => by simp [Ob.lexAt, lexD]
  | x :: xs, [], i, _ => by simp [Ob.lexAt, lexD]
  | x :: xs, y :: ys, i, h => by
    obtain ⟨h1, h2⟩ := h 0 x y rfl rfl
    have ih := lexAt_lexD f zz hz e r xs ys (i + 1) fun j a b h3 h4 => by
      have := h (j + 1) a b (by simpa using h3) (by simpa using h4)
      rw [show i + 1 + j = i + (j + 1) by omega]
      exact this
    have em : min (x :: xs).length (y :: ys).length = min xs.length ys.length + 1 := by simp only [List.length_cons]; omega
    rw [em, Ob.lexAt_succ, lexD, List.length_cons, List.length_cons, hz]
    rw [show e i = beqD x y by simpa using h1, show r i = f x y by simpa using h2, ih]
theorem uni_tuple {n : Nat} {d : PyData} (h : uni (n + 1) d = true) : ∃ xs, d = .tuple xs ∧ ∀ x ∈ xs, uni n x = true := by
  cases d with
  | tuple xs =>
    cases xs with
    | nil => simp [uni] at h
    | cons x xs =>
      simp only [uni, Bool.and_eq_true, List.all_eq_true] at h
      refine ⟨_, rfl, fun y hy => ?_⟩
      rcases List.mem_cons.mp hy with e | hy
      · rw [e]; exact h.1
      · exact h.2 y hy
  | _ => simp [uni] at h
theorem uni_int {d : PyData} (h : uni 0 d = true) : ∃ i, d = .int i := by
  cases d <;> simp [uni] at h
  exact ⟨_, rfl⟩
theorem noBs_of : ∀ {xs : List PyData}, (∀ x ∈ xs, noB x = true) → noBs xs = true
  | [], _ => rfl
  | x :: xs, h => by simp only [noBs, h x List.mem_cons_self, noBs_of fun y hy => h y (List.mem_cons_of_mem _ hy), Bool.and_self]
theorem noDicts_of : ∀ {xs : List PyData}, (∀ x ∈ xs, noDict x = true) → noDicts xs = true
  | [], _ => rfl
  | x :: xs, h => by simp only [noDicts, h x List.mem_cons_self, noDicts_of fun y hy => h y (List.mem_cons_of_mem _ hy), Bool.and_self]
theorem lays_of : ∀ {xs : List PyData}, (∀ x ∈ xs, x.canLay0 = true) → PyData.canLayAll0 xs = true
  | [], _ => rfl
  | x :: xs, h => by simp only [PyData.canLayAll0, h x List.mem_cons_self, lays_of fun y hy => h y (List.mem_cons_of_mem _ hy), Bool.and_self]
theorem uni_noB : ∀ (n : Nat) (d : PyData), uni n d = true → noB d = true
  | 0, d, h => by obtain ⟨i, rfl⟩ := uni_int h; rfl
  | n + 1, d, h => by
    obtain ⟨xs, rfl, hx⟩ := uni_tuple h
    simp only [noB]
    exact noBs_of fun x hm => uni_noB n x (hx x hm)
theorem uni_noDict : ∀ (n : Nat) (d : PyData), uni n d = true → noDict d = true
  | 0, d, h => by obtain ⟨i, rfl⟩ := uni_int h; rfl
  | n + 1, d, h => by
    obtain ⟨xs, rfl, hx⟩ := uni_tuple h
    simp only [noDict]
    exact noDicts_of fun x hm => uni_noDict n x (hx x hm)
theorem uni_lay : ∀ (n : Nat) (d : PyData), uni n d = true → d.canLay0 = true
  | 0, d, h => by obtain ⟨i, rfl⟩ := uni_int h; rfl
  | n + 1, d, h => by
    obtain ⟨xs, rfl, hx⟩ := uni_tuple h
    simp only [PyData.canLay0]
    exact lays_of fun x hm => uni_lay n x (hx x hm)
theorem depths_le {n : Nat} : ∀ {xs : List PyData}, (∀ x ∈ xs, x.depth ≤ n) → PyData.depthAll xs ≤ n
  | [], _ => by simp [PyData.depthAll]
  | x :: xs, h => by
    have h1 := h x List.mem_cons_self
    have h2 := depths_le fun y hy => h y (List.mem_cons_of_mem _ hy)
    simp only [PyData.depthAll]
    omega
theorem uni_depth : ∀ (n : Nat) (d : PyData), uni n d = true → d.depth ≤ n
  | 0, d, h => by obtain ⟨i, rfl⟩ := uni_int h; simp [PyData.depth]
  | n + 1, d, h => by
    obtain ⟨xs, rfl, hx⟩ := uni_tuple h
    have := depths_le fun x hm => uni_depth n x (hx x hm)
    simp only [PyData.depth]
    omega
theorem reads_tuple {h : Heap} {v : Value} {xs : List PyData} {as : List Addr} (r : Reads h v (.tuple xs) as) : ∃ (a : Addr) (o : Obj) (its : Array Value) (n : Nat), v = .ref a ∧ h.get? a = some o ∧ o.cls = .type "tuple" ∧ o.data = .seq its n ∧ ∃ bs, ReadsAll h its.toList xs bs := by
  cases r with
  | tuple ho hc hd hr => exact ⟨_, _, _, _, rfl, ho, hc, hd, _, hr⟩
theorem readsAll_at {h : Heap} : ∀ {xs : List PyData} {vs : List Value} {as : List Addr}, ReadsAll h vs xs as → vs.length = xs.length ∧ ∀ (j : Nat) (v : Value) (x : PyData), vs[j]? = some v → xs[j]? = some x → ∃ bs, Reads h v x bs
  | [], _, _, r => by cases r; exact ⟨rfl, fun j v x h => by simp at h⟩
  | d :: ds, _, _, r => by
    cases r with
    | cons a b =>
      obtain ⟨h1, h2⟩ := readsAll_at b
      refine ⟨by simp [h1], fun j v x e1 e2 => ?_⟩
      cases j with
      | zero => simp at e1 e2; subst e1; subst e2; exact ⟨_, a⟩
      | succ j => exact h2 j v x (by simpa using e1) (by simpa using e2)
theorem rc_gen {op : CmpOp} (f : PyData → PyData → Bool) (zz : Nat → Nat → Bool) (hz : ∀ m n, zz (m + 1) (n + 1) = zz m n) (hint : ∀ A s a b t u, Ob.RcOp op A s (.int a t) (.int b u) (f (.int a) (.int b)))
    (htup : ∀ {A : Around} {s : Shared} {l b : Addr} {items items2 : Array Value} {e r : Nat → Bool}, s.heap.IsTuple l items → s.heap.IsTuple b items2 → A.units < cLine →
      (∀ j (h1 : j < items.size) (h2 : j < items2.size), SeqAt.EqAt A.in1 s items[j] items2[j] (e j)) → (∀ j (h1 : j < items.size) (h2 : j < items2.size), e j = false → Ob.RcOp op A.in1 s items[j] items2[j] (r j)) →
      Ob.RcOp op A s (.ref l) (.ref b) (Ob.lexAt e r (zz items.size items2.size) 0 (min items.size items2.size)))
    (hf : ∀ xs ys, f (.tuple xs) (.tuple ys) = lexD f zz xs ys) :
    ∀ (n : Nat) (d e : PyData) (A : Around) (s : Shared) (v u : Value) (as bs : List Addr), uni n d = true → uni n e = true → Reads s.heap v d as → Reads s.heap u e bs → A.units + 2 * n < cLine → Ob.RcOp op A s v u (f d e)
  | 0, d, e, A, s, v, u, as, bs, h1, h2, r1, r2, hu => by
    obtain ⟨i, rfl⟩ := uni_int h1
    obtain ⟨j, rfl⟩ := uni_int h2
    cases r1
    cases r2
    exact hint _ _ _ _ _ _
  | n + 1, d, e, A, s, v, u, as, bs, h1, h2, r1, r2, hu => by
    obtain ⟨xs, rfl, hx⟩ := uni_tuple h1
    obtain ⟨ys, rfl, hy⟩ := uni_tuple h2
    obtain ⟨a, o, its, k, rfl, ho, hc, hd, cs, rs⟩ := reads_tuple r1
    obtain ⟨b, o2, its2, k2, rfl, ho2, hc2, hd2, cs2, rs2⟩ := reads_tuple r2
    obtain ⟨l1, at1⟩ := readsAll_at rs
    obtain ⟨l2, at2⟩ := readsAll_at rs2
    have s1 : its.size = xs.length := by rw [← l1]; simp
    have s2 : its2.size = ys.length := by rw [← l2]; simp
    have ua : A.in1.units = A.units + 1 := rfl
    have get : ∀ j (h1 : j < its.size) (h2 : j < its2.size), ∃ x y, xs[j]? = some x ∧ ys[j]? = some y ∧ (∃ bs, Reads s.heap its[j] x bs) ∧ ∃ bs, Reads s.heap its2[j] y bs := fun j h1 h2 => by
      have j1 : j < xs.length := by omega
      have j2 : j < ys.length := by omega
      refine ⟨xs[j], ys[j], by simp [j1], by simp [j2], at1 j _ _ (by simp [h1]) (by simp [j1]), at2 j _ _ (by simp [h2]) (by simp [j2])⟩
    have key := htup (A := A) (s := s) (l := a) (b := b) (items := its) (items2 := its2) (e := fun j => beqD (xs.getD j .none) (ys.getD j .none)) (r := fun j => f (xs.getD j .none) (ys.getD j .none)) ⟨o, ho, hc, k, hd⟩ ⟨o2, ho2, hc2, k2, hd2⟩ (by omega)
      (fun j g1 g2 => by
        obtain ⟨x, y, e1, e2, ⟨b1, q1⟩, ⟨b2, q2⟩⟩ := get j g1 g2
        have ux := hx x (List.mem_of_getElem? e1)
        have uy := hy y (List.mem_of_getElem? e2)
        have d1 := uni_depth n x ux
        simp only [List.getD_eq_getElem?_getD, e1, e2, Option.getD_some]
        rw [← eqv_beq x y (uni_noB n x ux) (uni_noB n y uy) (uni_noDict n x ux)]
        exact SeqAt.eqAt_reads x y A.in1 s _ _ b1 b2 q1 q2 (uni_lay n x ux) (uni_lay n y uy) (by rw [ua]; omega))
      (fun j g1 g2 _ => by
        obtain ⟨x, y, e1, e2, ⟨b1, q1⟩, ⟨b2, q2⟩⟩ := get j g1 g2
        have ux := hx x (List.mem_of_getElem? e1)
        have uy := hy y (List.mem_of_getElem? e2)
        simp only [List.getD_eq_getElem?_getD, e1, e2, Option.getD_some]
        exact rc_gen f zz hz hint htup hf n x y A.in1 s _ _ b1 b2 ux uy q1 q2 (by rw [ua]; omega))
    rw [s1, s2] at key
    rw [hf, ← lexAt_lexD f zz hz (fun j => beqD (xs.getD j .none) (ys.getD j .none)) (fun j => f (xs.getD j .none) (ys.getD j .none)) xs ys 0 (fun j x y e1 e2 => by
      constructor <;> simp only [Nat.zero_add, List.getD_eq_getElem?_getD, e1, e2, Option.getD_some])]
    exact key
theorem beqD_comm (x y : PyData) : beqD x y = beqD y x := by
  rw [Bool.eq_iff_iff, beqD_iff, beqD_iff]
  exact eq_comm
theorem lt_lex : ∀ xs ys, ltD (.tuple xs) (.tuple ys) = lexD ltD (fun m n => decide (m < n)) xs ys
  | xs, ys => by
    rw [ltD]
    have : ∀ xs ys, ltDs xs ys = lexD ltD (fun m n => decide (m < n)) xs ys := by
      intro xs
      induction xs with
      | nil => intro ys; cases ys <;> simp [ltDs, lexD]
      | cons x xs ih =>
        intro ys
        cases ys with
        | nil => simp [ltDs, lexD]
        | cons y ys => simp only [ltDs, lexD, ih]
    exact this xs ys
theorem gt_lex : ∀ xs ys, ltD (.tuple ys) (.tuple xs) = lexD (fun x y => ltD y x) (fun m n => decide (m > n)) xs ys
  | xs, ys => by
    rw [ltD]
    have : ∀ xs ys, ltDs ys xs = lexD (fun x y => ltD y x) (fun m n => decide (m > n)) xs ys := by
      intro xs
      induction xs with
      | nil => intro ys; cases ys <;> simp [ltDs, lexD]
      | cons x xs ih =>
        intro ys
        cases ys with
        | nil => simp [ltDs, lexD]
        | cons y ys => simp only [ltDs, lexD, ih, beqD_comm y x]
    exact this xs ys
theorem le_lex : ∀ xs ys, (!ltD (.tuple ys) (.tuple xs)) = lexD (fun x y => !ltD y x) (fun m n => decide (m ≤ n)) xs ys
  | xs, ys => by
    rw [ltD]
    have : ∀ xs ys, (!ltDs ys xs) = lexD (fun x y => !ltD y x) (fun m n => decide (m ≤ n)) xs ys := by
      intro xs
      induction xs with
      | nil => intro ys; cases ys <;> simp [ltDs, lexD]
      | cons x xs ih =>
        intro ys
        cases ys with
        | nil => simp [ltDs, lexD]
        | cons y ys =>
          simp only [ltDs, lexD, beqD_comm y x]
          split
          · exact ih ys
          · rfl
    exact this xs ys
theorem ge_lex : ∀ xs ys, (!ltD (.tuple xs) (.tuple ys)) = lexD (fun x y => !ltD x y) (fun m n => decide (m ≥ n)) xs ys
  | xs, ys => by
    rw [ltD]
    have : ∀ xs ys, (!ltDs xs ys) = lexD (fun x y => !ltD x y) (fun m n => decide (m ≥ n)) xs ys := by
      intro xs
      induction xs with
      | nil => intro ys; cases ys <;> simp [ltDs, lexD]
      | cons x xs ih =>
        intro ys
        cases ys with
        | nil => simp [ltDs, lexD]
        | cons y ys =>
          simp only [ltDs, lexD]
          split
          · exact ih ys
          · rfl
    exact this xs ys
def rc_lt := rc_gen (op := .Lt) ltD (fun m n => decide (m < n)) (fun m n => by simp) (fun A s a b t u => by rw [ltD]; exact Ob.RcOp.lt_int a b t u) Ob.RcOp.tuples_lt lt_lex
def rc_gt := rc_gen (op := .Gt) (fun x y => ltD y x) (fun m n => decide (m > n)) (fun m n => by simp) (fun A s a b t u => by rw [ltD]; exact Ob.RcOp.gt_int a b t u) Ob.RcOp.tuples_gt gt_lex
def rc_le := rc_gen (op := .LtE) (fun x y => !ltD y x) (fun m n => decide (m ≤ n)) (fun m n => by simp) (fun A s a b t u => by
  have e : (!ltD (.int b) (.int a)) = decide (a ≤ b) := by rw [ltD, Bool.eq_iff_iff]; simp
  rw [e]; exact Ob.RcOp.le_int a b t u) Ob.RcOp.tuples_le le_lex
def rc_ge := rc_gen (op := .GtE) (fun x y => !ltD x y) (fun m n => decide (m ≥ n)) (fun m n => by simp) (fun A s a b t u => by
  have e : (!ltD (.int a) (.int b)) = decide (b ≤ a) := by rw [ltD, Bool.eq_iff_iff]; simp
  rw [e]; exact Ob.RcOp.ge_int a b t u) Ob.RcOp.tuples_ge ge_lex
/-- an order, by its rule -/
theorem op_ord {X : Cx} {op : CmpOp} {f : PyData → PyData → Bool} (hu : X.A.units + 64 < cLine) (hne : ∀ v u : Value, (compareOp op v u) = richCompare op v u)
    (rule : ∀ (n : Nat) (d e : PyData) (A : Around) (s : Shared) (v u : Value) (as bs : List Addr), uni n d = true → uni n e = true → Reads s.heap v d as → Reads s.heap u e bs → A.units + 2 * n < cLine → Ob.RcOp op A s v u (f d e)) :
    OpR X (compareOp op) (fun x y H Q => ∃ d e, Dp X.K H x d ∧ Dp X.K H y e ∧ alikeU d e = true ∧ Q (.bl (f d e)) H) := by
  intro pins s σ H x y v u Q I rx ry h
  obtain ⟨d, e, hd, he, hal, q⟩ := h
  obtain ⟨as, r1⟩ := Dp.reads I d x v hd rx
  obtain ⟨bs, r2⟩ := Dp.reads I e y u he ry
  rw [hne]
  have key : ∃ n, n ≤ 3 ∧ uni n d = true ∧ uni n e = true := by
    unfold alikeU at hal
    simp only [Bool.or_eq_true, Bool.and_eq_true] at hal
    rcases hal with ((h | h) | h) | h
    · exact ⟨0, by omega, h⟩
    · exact ⟨1, by omega, h⟩
    · exact ⟨2, by omega, h⟩
    · exact ⟨3, by omega, h⟩
  obtain ⟨n, hn, u1, u2⟩ := key
  exact rule n d e X.A s v u as bs u1 u2 r1 r2 (by omega) X.prog X.w X.xe _ ⟨.bl _, H, I, rfl, q⟩
section
variable {X : Cx} {W : WX} {c : Ck} {C : Calls} {n : Nat} {e a b : Expr} {pos p2 : Pos} {x y z : Ex}
theorem alikeU_noDict {d e : PyData} (h : alikeU d e = true) : noDict d = true ∧ noDict e = true := by
  unfold alikeU at h
  simp only [Bool.or_eq_true, Bool.and_eq_true] at h
  rcases h with ((h | h) | h) | h
  · exact ⟨uni_noDict _ _ h.1, uni_noDict _ _ h.2⟩
  · exact ⟨uni_noDict _ _ h.1, uni_noDict _ _ h.2⟩
  · exact ⟨uni_noDict _ _ h.1, uni_noDict _ _ h.2⟩
  · exact ⟨uni_noDict _ _ h.1, uni_noDict _ _ h.2⟩
def op_lt_ok (k : Cok X c C n W) := op_ord (X := X) (op := .Lt) (f := ltD) k.hu (fun _ _ => rfl) rc_lt
def op_gt_ok (k : Cok X c C n W) := op_ord (X := X) (op := .Gt) (f := fun x y => ltD y x) k.hu (fun _ _ => rfl) rc_gt
def op_le_ok (k : Cok X c C n W) := op_ord (X := X) (op := .LtE) (f := fun x y => !ltD y x) k.hu (fun _ _ => rfl) rc_le
def op_ge_ok (k : Cok X c C n W) := op_ord (X := X) (op := .GtE) (f := fun x y => !ltD x y) k.hu (fun _ _ => rfl) rc_ge
end
end Tw
set_option Elab.async false
set_option linter.all false
set_option maxRecDepth 100000
set_option maxHeartbeats 1000000
/-! More expressions. -/
namespace Tw
open PySem PySem.Spec PyProof.Rows L2
section
variable {X : Cx} {W : WX} {c : Ck} {C : Calls} {n : Nat} {e a b : Expr} {pos p2 : Pos} {x y z : Ex}

theorem ve_ord {o : Co} {op : CmpOp} {f : PyData → PyData → Bool} (hne : op ≠ .In ∧ op ≠ .NotIn) (ho : OpR X (compareOp op) (fun x y H Q => ∃ d e, Dp X.K H x d ∧ Dp X.K H y e ∧ alikeU d e = true ∧ Q (.bl (f d e)) H))
    (hf : ∀ d e, cmpD o d e = if alikeU d e then some (f d e) else none) (ha : VE X W a (ev C x)) (hb : VE X W b (ev C y)) :
    VE X W (.Compare a [op] [b] pos) (ev C (.cmp o x y)) ∧ VT X W (.Compare a [op] [b] pos) (ev C (.cmp o x y)) :=
  ve_cmp ho (nomark _ hne.1 hne.2) ha hb fun O ρ σ env m H0 H1 v u d e fd fe q Q S r1 r2 hq hQ => by
    rw [hf] at hq
    split at hq
    · rename_i h
      cases hq
      obtain ⟨n1, n2⟩ := alikeU_noDict h
      exact ⟨d, e, r1.dp n1, r2.dp n2, h, hQ⟩
    · cases hq
def ve_lt (k : Cok X c C n W) (ha : VE X W a (ev C x)) (hb : VE X W b (ev C y)) := ve_ord (o := .lt) (pos := pos) ⟨by decide, by decide⟩ (op_lt_ok k) (fun _ _ => rfl) ha hb
def ve_gt (k : Cok X c C n W) (ha : VE X W a (ev C x)) (hb : VE X W b (ev C y)) := ve_ord (o := .gt) (pos := pos) ⟨by decide, by decide⟩ (op_gt_ok k) (fun _ _ => rfl) ha hb
def ve_le (k : Cok X c C n W) (ha : VE X W a (ev C x)) (hb : VE X W b (ev C y)) := ve_ord (o := .le) (pos := pos) ⟨by decide, by decide⟩ (op_le_ok k) (fun _ _ => rfl) ha hb
def ve_ge (k : Cok X c C n W) (ha : VE X W a (ev C x)) (hb : VE X W b (ev C y)) := ve_ord (o := .ge) (pos := pos) ⟨by decide, by decide⟩ (op_ge_ok k) (fun _ _ => rfl) ha hb
end
end Tw
set_option Elab.async false
set_option linter.all false
set_option maxRecDepth 100000
set_option maxHeartbeats 1000000
/-! Dicts. -/
namespace Tw
open PySem PySem.Spec PyProof.Rows L2
/-! ### keys -/
mutual
def kOf : PyData → NestedKey
  | .int i => .num i
  | .str x => .text x
  | .tuple xs => .tup (kOfs xs)
  | _ => .none
def kOfs : List PyData → List NestedKey
  | [] => []
  | x :: xs => kOf x :: kOfs xs
end
theorem kOfs_data : ∀ {xs : List PyData}, (∀ x ∈ xs, (kOf x).data = x) → NestedKey.datas (kOfs xs) = xs
  | [], _ => rfl
  | x :: xs, h => by simp only [kOfs, NestedKey.datas, h x List.mem_cons_self, kOfs_data fun y hy => h y (List.mem_cons_of_mem _ hy)]
theorem kOfs_depth {n : Nat} : ∀ {xs : List PyData}, (∀ x ∈ xs, (kOf x).depth ≤ n) → NestedKey.depthAll (kOfs xs) ≤ n
  | [], _ => by simp [kOfs, NestedKey.depthAll]
  | x :: xs, h => by
    have h1 := h x List.mem_cons_self
    have h2 := kOfs_depth fun y hy => h y (List.mem_cons_of_mem _ hy)
    simp only [kOfs, NestedKey.depthAll]
    omega
theorem kOf_uni : ∀ (n : Nat) (d : PyData), uni n d = true → (kOf d).data = d ∧ (kOf d).depth ≤ n
  | 0, d, h => by
    obtain ⟨i, rfl⟩ := uni_int h
    exact ⟨by simp [kOf, NestedKey.data], by simp [kOf, NestedKey.depth]⟩
  | n + 1, d, h => by
    obtain ⟨xs, rfl, hx⟩ := uni_tuple h
    refine ⟨?_, ?_⟩
    · simp only [kOf, NestedKey.data]
      rw [kOfs_data fun x hm => (kOf_uni n x (hx x hm)).1]
    · have := kOfs_depth fun x hm => (kOf_uni n x (hx x hm)).2
      simp only [kOf, NestedKey.depth]
      omega
theorem keyOk_key {d : PyData} (h : keyOk d = true) : (∃ k : NestedKey, k.data = d ∧ k.depth ≤ 8) ∧ ∃ xs, d = .tuple xs := by
  unfold keyOk at h
  simp only [Bool.or_eq_true] at h
  rcases h with (h | h) | h
  · obtain ⟨h1, h2⟩ := kOf_uni 1 d h
    obtain ⟨xs, e, _⟩ := uni_tuple h
    exact ⟨⟨_, h1, by omega⟩, xs, e⟩
  · obtain ⟨h1, h2⟩ := kOf_uni 2 d h
    obtain ⟨xs, e, _⟩ := uni_tuple h
    exact ⟨⟨_, h1, by omega⟩, xs, e⟩
  · rw [beqD_iff] at h
    subst h
    exact ⟨⟨.tup [], by simp [NestedKey.data, NestedKey.datas], by simp [NestedKey.depth, NestedKey.depthAll]⟩, [], rfl⟩
mutual
theorem data_inj : ∀ a b : NestedKey, a.data = b.data → a = b
  | .none, b, h => by cases b <;> simp [NestedKey.data] at h ⊢
  | .num _, b, h => by cases b <;> simp [NestedKey.data] at h ⊢; exact h
  | .text _, b, h => by cases b <;> simp [NestedKey.data] at h ⊢; exact h
  | .tup ks, b, h => by
    cases b with
    | tup ls => simp only [NestedKey.data, PyData.tuple.injEq] at h; rw [datas_inj ks ls h]
    | _ => simp [NestedKey.data] at h
theorem datas_inj : ∀ a b : List NestedKey, NestedKey.datas a = NestedKey.datas b → a = b
  | [], b, h => by cases b <;> simp [NestedKey.datas] at h ⊢
  | k :: ks, b, h => by
    cases b with
    | nil => simp [NestedKey.datas] at h
    | cons l ls =>
      simp only [NestedKey.datas, List.cons.injEq] at h
      rw [data_inj k l h.1, datas_inj ks ls h.2]
end
section
variable {X : Cx} {pins : List (Addr × Obj)} {σ : L2.St} {H H' : Hp} {s : Shared} {O : Hot} {B : Bs}
mutual
theorem Rp.nest (I : Inv X pins σ H s) (hK : B.K = X.K) : ∀ (k : NestedKey) (v : V) (u : Value), Rp B O H v k.data → RelV v u → NestedIs s.heap k u
  | .none, _, _, h, r => by simp only [NestedKey.data] at h; cases h; cases r; exact .none
  | .num i, _, _, h, r => by simp only [NestedKey.data] at h; cases h; obtain ⟨t, rfl⟩ := r; exact .int i t
  | .text x, _, _, h, r => by simp only [NestedKey.data] at h; cases h; obtain ⟨t, rfl⟩ := r; exact .text x t
  | .tup ks, _, _, h, r => by
    simp only [NestedKey.data] at h
    cases h with
    | tup n q a =>
      cases r
      obtain ⟨its, rv, ⟨o, ho, hc, m, hd⟩, _⟩ := I.tuple (sqT_of q)
      exact .tup ho hc hd (Rps.nest I hK ks _ _ a (by simpa using rv))
    | tupK q a =>
      cases r
      obtain ⟨its, rv, ⟨o, ho, hc, m, hd⟩, _⟩ := I.tuple (hK ▸ q H)
      exact .tup ho hc hd (Rps.nest I hK ks _ _ a (by simpa using rv))
theorem Rps.nest (I : Inv X pins σ H s) (hK : B.K = X.K) : ∀ (ks : List NestedKey) (vs : List V) (us : List Value), Rps B O H vs (NestedKey.datas ks) → Vals vs us → NestedAll s.heap ks us
  | [], _, _, h, r => by simp only [NestedKey.datas] at h; cases h; cases r; exact .nil
  | k :: ks, _, _, h, r => by
    simp only [NestedKey.datas] at h
    cases h with
    | cons a b =>
      cases r with
      | cons r1 r2 => exact .cons (Rp.nest I hK k _ _ a r1) (Rps.nest I hK ks _ _ b r2)
end
theorem ens_at : ∀ {xs : List Ent} {kvs : List (PyData × PyData)} (k : NestedKey), Ens B O H xs kvs →
    match lookD k.data kvs with
    | none => atKey xs k = none
    | some d => ∃ b u v, atKey xs k = some (b, u) ∧ RelV v u ∧ Rp B O H v d
  | [], _, k, h => by cases h; simp [lookD, atKey]
  | x :: xs, _, k, h => by
    cases h with
    | @cons k' b u v d xs kvs hd hr hv hp ht =>
      have ih := ens_at k ht
      simp only [lookD]
      by_cases e : k' = k
      · subst e
        rw [if_pos (by rw [beqD_iff])]
        exact ⟨b, u, v, by simp [atKey], hv, hp⟩
      · rw [if_neg (by rw [beqD_iff]; exact fun z => e (data_inj _ _ z))]
        have at_ : atKey ((k', b, u) :: xs) k = atKey xs k := by simp [atKey, e]
        rw [at_]
        exact ih
theorem ens_is (I : Inv X pins σ H s) (hB : B = bsOf X) : ∀ {xs : List Ent} {kvs : List (PyData × PyData)}, Ens B O H xs kvs → ∀ x ∈ xs, (nestedKind X.prog X.w).is s.heap x.1 x.2.1
  | [], _, _, x, hx => by cases hx
  | y :: xs, _, h, x, hx => by
    cases h with
    | @cons k' b u v d xs kvs hd hr hv hp ht =>
      rcases List.mem_cons.mp hx with e | hx
      · subst e
        exact ⟨Rp.nest I (by rw [hB]) k' _ _ hr rfl, hd⟩
      · exact ens_is I hB ht x hx
theorem ens_length : ∀ {xs : List Ent} {kvs : List (PyData × PyData)}, Ens B O H xs kvs → xs.length = kvs.length
  | [], _, h => by cases h; rfl
  | x :: xs, _, h => by cases h with | cons _ _ _ _ ht => simp [ens_length ht]
theorem inv_dictOf (I : Inv X pins σ H s) {a : Addr} {xs : List Ent} {kvs : List (PyData × PyData)} (h : Rd H a (dicO (bsOf X) a xs)) (nd : (xs.map (·.1)).Nodup) (k : Ens (bsOf X) O H xs kvs) : s.heap.DictOfH (nestedKind X.prog X.w) a xs := by
  obtain ⟨⟨o, es, ep, h1, h2, h3, h4⟩, _⟩ := h.ok I.hok
  exact ⟨o, es, ep, h1, h2, h3, h4, ens_is I rfl k, nd⟩
theorem dicO_ok {h : Heap} {a : Addr} {xs : List Ent} {P : Program} {w : World} {K : PySem.W.Frag} (m : h.DictOfH (nestedKind P w) a xs) : ObjOk P w H h a (dicO ⟨P, w, K⟩ a xs) := by
  obtain ⟨o, es, ep, h1, h2, h3, h4, _, _⟩ := m
  refine ⟨⟨o, es, ep, h1, h2, h3, h4⟩, ⟨o, h1⟩, fun g1 g2 ⟨o', es', ep', q1, q2⟩ st => ⟨o', es', ep', st _ q1, q2⟩⟩
/-- an entry put -/
theorem ens_put {k : NestedKey} {b : Addr} {u : Value} {v : V} {d : PyData} (hd : k.depth ≤ 8) (hk : Rp B O H (.ref b) k.data) (hv : RelV v u) (hp : Rp B O H v d) : ∀ {xs : List Ent} {kvs : List (PyData × PyData)}, (xs.map (·.1)).Nodup → Ens B O H xs kvs → Ens B O H (storedH xs k b u) (putD k.data d kvs)
  | [], _, _, h => by
    cases h
    simp only [storedH, atKey, putD]
    exact .cons hd hk hv hp .nil
  | x :: xs, _, nd, h => by
    cases h with
    | @cons k' b' u' v' d' xs kvs hd' hr' hv' hp' ht =>
      rw [List.map_cons, List.nodup_cons] at nd
      have ih := ens_put hd hk hv hp nd.2 ht
      simp only [putD]
      by_cases e : k' = k
      · subst e
        rw [if_pos (by rw [beqD_iff])]
        have nk : ∀ y ∈ xs, ¬ y.1 = k' := fun y hy e => nd.1 (e ▸ List.mem_map.mpr ⟨y, hy, rfl⟩)
        have e1 : storedH ((k', b', u') :: xs) k' b u = (k', b', u) :: xs := by
          rw [storedH_old (p := (b', u')) (by simp [atKey])]
          have : xs.map (putAt k' u) = xs := by
            conv => rhs; rw [← List.map_id xs]
            refine List.map_congr_left fun y hy => ?_
            unfold putAt
            rw [if_neg (nk y hy)]; rfl
          simp [putAt, this]
        rw [e1]
        exact .cons hd' hr' hv hp ht
      · rw [if_neg (by rw [beqD_iff]; exact fun z => e (data_inj _ _ z))]
        have at_ : atKey ((k', b', u') :: xs) k = atKey xs k := by simp [atKey, e]
        have e1 : storedH ((k', b', u') :: xs) k b u = (k', b', u') :: storedH xs k b u := by
          unfold storedH
          rw [at_]
          split
          · simp [putAt, e]
          · rfl
        rw [e1]
        exact .cons hd' hr' hv' hp' ih
theorem nodup_put {k : NestedKey} {b : Addr} {u : Value} {xs : List Ent} (nd : (xs.map (·.1)).Nodup) : ((storedH xs k b u).map (·.1)).Nodup := by
  unfold storedH
  split
  · have : (xs.map (putAt k u)).map (·.1) = xs.map (·.1) := by
      rw [List.map_map]
      refine List.map_congr_left fun y _ => ?_
      show (putAt k u y).1 = y.1
      unfold putAt
      split <;> rfl
    rw [this]; exact nd
  · rename_i h
    rw [List.map_append, List.nodup_append]
    refine ⟨nd, by simp, fun a ha b' hb e => ?_⟩
    simp only [List.map_cons, List.map_nil, List.mem_singleton] at hb
    subst hb
    subst e
    obtain ⟨y, hy, e⟩ := List.mem_map.mp ha
    apply h
    unfold atKey
    rw [Option.isSome_map, List.find?_isSome]
    exact ⟨y, hy, by simp [e]⟩
end

section
variable {X : Cx} {W : WX} {c : Ck} {C : Calls} {n : Nat} {e a b : Expr} {pos p2 : Pos} {x y z : Ex}
theorem Cok.hu1 (k : Cok X c C n W) : (nestedKind X.prog X.w).room X.A.in1 := by
  show X.A.units + 1 + 8 < cLine
  have := k.hu
  omega
/-- the key at hand -/
theorem key_is {pins : List (Addr × Obj)} {σ : L2.St} {H : Hp} {s : Shared} {O : Hot} {v : V} {u : Value} {d : PyData} (I : Inv X pins σ H s) (hd : keyOk d = true) (hp : Rp (bsOf X) O H v d) (hv : RelV v u) :
    ∃ (k : NestedKey) (q : Addr), k.data = d ∧ k.depth ≤ 8 ∧ v = .ref q ∧ u = .ref q ∧ (nestedKind X.prog X.w).is s.heap k q := by
  obtain ⟨⟨k, e, dp⟩, xs, ex⟩ := keyOk_key hd
  have hv' : ∃ q, v = .ref q := by
    subst ex
    cases hp with
    | tup => exact ⟨_, rfl⟩
    | tupK => exact ⟨_, rfl⟩
  obtain ⟨q, rfl⟩ := hv'
  cases hv
  exact ⟨k, q, e, dp, rfl, rfl, Rp.nest I rfl k _ _ (e ▸ hp) (show L2.RelV (V.ref q) (Value.ref q) from rfl), dp⟩
/-- x in d -/
theorem op_in_dict (k : Cok X c C n W) : OpR X (compareOp .In) (fun x y H Q => ∃ O d a xs kvs, Rp (bsOf X) O H x d ∧ keyOk d = true ∧ y = .ref a ∧ (a == sysModules) = false ∧ Rd H a (dicO (bsOf X) a xs) ∧ (xs.map (·.1)).Nodup ∧ Ens (bsOf X) O H xs kvs ∧ Q (.bl (lookD d kvs).isSome) H) := by
  intro pins s σ H x y v u Q I rx ry h
  obtain ⟨O, d, a, xs, kvs, hp, hd, rfl, sm, ha, nd, he, q⟩ := h
  cases ry
  obtain ⟨kk, b, ek, dp, rfl, rfl, his⟩ := key_is I hd hp rx
  refine wpAny_in_heap k.hu1 his sm (inv_dictOf I ha nd he) ⟨.bl _, H, I.tok _, ?_, q⟩
  show Value.bool _ = Value.bool _
  have := ens_at kk he
  rw [ek] at this
  cases e : lookD d kvs with
  | none => rw [e] at this; rw [this]; rfl
  | some z => rw [e] at this; obtain ⟨b', u', v', e', _⟩ := this; rw [e']; rfl
theorem op_notin_dict (k : Cok X c C n W) : OpR X (compareOp .NotIn) (fun x y H Q => ∃ O d a xs kvs, Rp (bsOf X) O H x d ∧ keyOk d = true ∧ y = .ref a ∧ (a == sysModules) = false ∧ Rd H a (dicO (bsOf X) a xs) ∧ (xs.map (·.1)).Nodup ∧ Ens (bsOf X) O H xs kvs ∧ Q (.bl (!(lookD d kvs).isSome)) H) := by
  intro pins s σ H x y v u Q I rx ry h
  obtain ⟨O, d, a, xs, kvs, hp, hd, rfl, sm, ha, nd, he, q⟩ := h
  cases ry
  obtain ⟨kk, b, ek, dp, rfl, rfl, his⟩ := key_is I hd hp rx
  have fin : (atKey xs kk).isSome = (lookD d kvs).isSome := by
    have := ens_at kk he
    rw [ek] at this
    cases e : lookD d kvs with
    | none => rw [e] at this; rw [this]; rfl
    | some z => rw [e] at this; obtain ⟨b', u', v', e', _⟩ := this; rw [e']; rfl
  show wpAny _ _ (do return Value.bool (!(← contains (.ref a) (.ref b)))) _ _ _
  refine wpAny_bind (wpAny_contains_heap k.hu1 his sm (inv_dictOf I ha nd he) (wpAny_pure ⟨.bl _, H, I.tok _, ?_, q⟩))
  show Value.bool _ = Value.bool _
  rw [fin]
/-- d[k] -/
theorem ix_dict (k : Cok X c C n W) : IxR X (fun x y H Q => ∃ O d a xs kvs r, Rp (bsOf X) O H y d ∧ keyOk d = true ∧ x = .ref a ∧ (a == sysModules) = false ∧ Rd H a (dicO (bsOf X) a xs) ∧ (xs.map (·.1)).Nodup ∧ Ens (bsOf X) O H xs kvs ∧ lookD d kvs = some r ∧ ∀ v, Rp (bsOf X) O H v r → Q v H) := by
  intro value slice pins s σ H x y v u Q I rx ry h hs
  obtain ⟨O, d, a, xs, kvs, r, hp, hd, rfl, sm, ha, nd, he, hl, q⟩ := h
  cases rx
  obtain ⟨kk, b, ek, dp, rfl, rfl, his⟩ := key_is I hd hp ry
  have := ens_at kk he
  rw [ek, hl] at this
  obtain ⟨b', u', v', e', rv, rp⟩ := this
  have m := inv_dictOf I ha nd he
  refine tail_any m.typeIs slot_dict_getitem.lookup ?_ hs
  exact wpAny_getItem_heap k.hu1 his m e' ⟨v', H, I.tok _, rv, q v' rp⟩
end
end Tw
set_option Elab.async false
set_option linter.all false
set_option maxRecDepth 100000
set_option maxHeartbeats 1000000
/-! in, subscripts, logic, displays, calls. -/
namespace Tw
open PySem PySem.Spec PyProof.Rows L2
section
variable {X : Cx} {W : WX} {c : Ck} {C : Calls} {n : Nat} {e a b d : Expr} {pos p2 : Pos} {x y z : Ex}
theorem op_inT (hu : X.A.units + 65 < cLine) : OpR X (compareOp .In) (fun x y H Q => ∃ d ds, Dp X.K H x d ∧ Dp X.K H y (.tuple ds) ∧ SeqAt.shaped d = true ∧ SeqAt.shaped (.tuple ds) = true ∧ Q (.bl (ds.any fun z => PyData.eqv z d)) H) := by
  intro pins s σ H x y v u Q I rx ry h
  obtain ⟨d, ds, hd, he, sd, se, q⟩ := h
  obtain ⟨as, r1⟩ := Dp.reads I d x v hd rx
  obtain ⟨bs, r2⟩ := Dp.reads I (.tuple ds) y u he ry
  exact SeqAt.in_tuple_reads r2 r1 (SeqAt.canLay_of_shaped se) (SeqAt.canLay_of_shaped sd) (room_in_shaped sd hu) ⟨.bl _, H, I, rfl, q⟩
theorem op_notInT (hu : X.A.units + 65 < cLine) : OpR X (compareOp .NotIn) (fun x y H Q => ∃ d ds, Dp X.K H x d ∧ Dp X.K H y (.tuple ds) ∧ SeqAt.shaped d = true ∧ SeqAt.shaped (.tuple ds) = true ∧ Q (.bl (!ds.any fun z => PyData.eqv z d)) H) := by
  intro pins s σ H x y v u Q I rx ry h
  obtain ⟨d, ds, hd, he, sd, se, q⟩ := h
  obtain ⟨as, r1⟩ := Dp.reads I d x v hd rx
  obtain ⟨bs, r2⟩ := Dp.reads I (.tuple ds) y u he ry
  exact SeqAt.notIn_tuple_reads r2 r1 (SeqAt.canLay_of_shaped se) (SeqAt.canLay_of_shaped sd) (room_in_shaped sd hu) ⟨.bl _, H, I, rfl, q⟩
theorem Cok.hu65 (k : Cok X c C n W) : X.A.units + 65 < cLine := by have := k.room.un; omega
theorem any_eqv {ys : List PyData} {x : PyData} (hx : noB x = true) (hy : noBs ys = true) (hd : noDicts ys = true) : (ys.any fun z => PyData.eqv z x) = ys.any fun z => beqD z x := by
  induction ys with
  | nil => rfl
  | cons y ys ih =>
    simp only [noBs, noDicts, Bool.and_eq_true] at hy hd
    simp only [List.any_cons, eqv_beq y x hy.1 hx hd.1, ih hy.2 hd.2]
theorem inD_ok {x : PyData} {ys : List PyData} {q : Bool} (h : inD x ys = some q) : noB x = true ∧ SeqAt.shaped x = true ∧ noBs ys = true ∧ SeqAt.shaped (.list ys) = true ∧ (ys.any fun z => PyData.eqv z x) = q := by
  unfold inD at h
  split at h
  · rename_i hz
    unfold plainD at hz
    simp only [Bool.and_eq_true] at hz
    obtain ⟨⟨h1, h2⟩, h3, h4⟩ := hz
    have h5 : noBs ys = true := by simpa [noB] using h3
    have h6 : noDicts ys = true := by have := noDict_shaped h4; simpa [noDict] using this
    cases h
    exact ⟨h1, h2, h5, h4, any_eqv h1 h5 h6⟩
  · cases h
theorem shaped_tl {ys : List PyData} (h : SeqAt.shaped (.list ys) = true) : SeqAt.shaped (.tuple ys) = true := h
theorem ve_in (k : Cok X c C n W) (hm : behindInMarks .In b = false) (ha : VE X W a (ev C x)) (hb : VE X W b (ev C y)) : VE X W (.Compare a [.In] [b] pos) (ev C (.cmp .isin x y)) ∧ VT X W (.Compare a [.In] [b] pos) (ev C (.cmp .isin x y)) :=
  ve_cmp (((op_inD k.hu65).or (op_inT k.hu65)).or (op_in_dict k)) hm ha hb fun O ρ σ env m H0 H1 v u d e fd fe q Q S r1 r2 hq hQ => by
    unfold cmpD at hq
    cases e with
    | list ys =>
      obtain ⟨h1, h2, h3, h4, h5⟩ := inD_ok hq
      exact .inl (.inl ⟨d, ys, r1.dp (noDict_shaped h2), r2.dp (noDict_shaped h4), h2, h4, by rw [h5]; exact hQ⟩)
    | tuple ys =>
      obtain ⟨h1, h2, h3, h4, h5⟩ := inD_ok hq
      exact .inl (.inr ⟨d, ys, r1.dp (noDict_shaped h2), r2.dp (noDict_shaped (shaped_tl h4)), h2, shaped_tl h4, by rw [h5]; exact hQ⟩)
    | dict kvs =>
      simp only at hq
      split at hq
      · rename_i hk
        cases hq
        obtain ⟨ad, xs, e1, sm, h1, nd, _, he⟩ := r2.dict
        obtain ⟨_, ts, et⟩ := keyOk_key hk
        subst et
        exact .inr ⟨O, _, ad, xs, kvs, RF.keepT (H1 := H1) r1, hk, e1, sm, h1, nd, he, hQ⟩
      · cases hq
    | _ => cases hq
theorem ve_notin (k : Cok X c C n W) (hm : behindInMarks .NotIn b = false) (ha : VE X W a (ev C x)) (hb : VE X W b (ev C y)) : VE X W (.Compare a [.NotIn] [b] pos) (ev C (.cmp .notin x y)) ∧ VT X W (.Compare a [.NotIn] [b] pos) (ev C (.cmp .notin x y)) :=
  ve_cmp (((op_notInD k.hu65).or (op_notInT k.hu65)).or (op_notin_dict k)) hm ha hb fun O ρ σ env m H0 H1 v u d e fd fe q Q S r1 r2 hq hQ => by
    unfold cmpD at hq
    cases e with
    | list ys =>
      cases e' : inD d ys with
      | none => simp only [e'] at hq; cases hq
      | some q' =>
        simp only [e'] at hq
        cases hq
        obtain ⟨h1, h2, h3, h4, h5⟩ := inD_ok e'
        exact .inl (.inl ⟨d, ys, r1.dp (noDict_shaped h2), r2.dp (noDict_shaped h4), h2, h4, by rw [h5]; exact hQ⟩)
    | tuple ys =>
      cases e' : inD d ys with
      | none => simp only [e'] at hq; cases hq
      | some q' =>
        simp only [e'] at hq
        cases hq
        obtain ⟨h1, h2, h3, h4, h5⟩ := inD_ok e'
        exact .inl (.inr ⟨d, ys, r1.dp (noDict_shaped h2), r2.dp (noDict_shaped (shaped_tl h4)), h2, shaped_tl h4, by rw [h5]; exact hQ⟩)
    | dict kvs =>
      simp only at hq
      split at hq
      · rename_i hk
        cases hq
        obtain ⟨ad, xs, e1, sm, h1, nd, _, he⟩ := r2.dict
        obtain ⟨_, ts, et⟩ := keyOk_key hk
        subst et
        exact .inr ⟨O, _, ad, xs, kvs, RF.keepT (H1 := H1) r1, hk, e1, sm, h1, nd, he, hQ⟩
      · cases hq
    | _ => cases hq

/-! ### a op b op c -/
/-- what an operator asks, by the evaluator's word -/
structure OpC (X : Cx) (C : Calls) (o : Co) (op : CmpOp) : Type where
  r : R2
  ho : OpR X (compareOp op) r
  hk : ∀ O ρ σ env m H0 H1 v u d e fd fe q Q, SR (bsOf X) O ρ σ H1 env m → RF (bsOf X) O ρ H0 H1 v d fd → RF (bsOf X) O ρ H0 H1 u e fe → cmpD o d e = some q → Q (.bl q) H1 → r v u H1 Q
def opC_ord {o : Co} {op : CmpOp} {f : PyData → PyData → Bool} (ho : OpR X (compareOp op) (fun x y H Q => ∃ d e, Dp X.K H x d ∧ Dp X.K H y e ∧ alikeU d e = true ∧ Q (.bl (f d e)) H))
    (hf : ∀ d e, cmpD o d e = if alikeU d e then some (f d e) else none) : OpC X C o op := ⟨_, ho, fun O ρ σ env m H0 H1 v u d e fd fe q Q S r1 r2 hq hQ => by
    rw [hf] at hq
    split at hq
    · rename_i h
      cases hq
      obtain ⟨n1, n2⟩ := alikeU_noDict h
      exact ⟨d, e, r1.dp n1, r2.dp n2, h, hQ⟩
    · cases hq⟩
theorem ve_chain {o p : Co} {op op' : CmpOp} (A1 : OpC X C o op) (A2 : OpC X C p op') (ha : VE X W a (ev C x)) (hb : VE X W b (ev C y)) (hd : VE X W d (ev C z)) (hm : lastMarks [op, op'] [b, d] = false) :
    VE X W (.Compare a [op, op'] [b, d] pos) (ev C (.chain o p x y z)) ∧ VT X W (.Compare a [op, op'] [b, d] pos) (ev C (.chain o p x y z)) := by
  have key : ∀ σ H (Q : VK), tV (bsOf X) X.mg W (ev C (.chain o p x y z)) σ H Q → tChain A1.r A2.r (tV (bsOf X) X.mg W (ev C x)) (tV (bsOf X) X.mg W (ev C y)) (tV (bsOf X) X.mg W (ev C z)) σ H Q := by
    intro σ H Q q
    obtain ⟨O, ρ, env, m, S, h⟩ := q
    rw [ev] at h
    refine tV.part S h.bind fun p1 m1 v H1 S1 f1 r1 x1 => ?_
    refine tV.part S1 (x1.move f1 fun _ _ z => z).bind fun q1 m2 u H2 S2 f2 r2 y1 => ?_
    cases e : cmpD o p1.1 q1.1 with
    | none => simp only [e] at y1; exact y1.elim
    | some t =>
      refine A1.hk O ρ σ env m2 H H2 v u p1.1 q1.1 p1.2 q1.2 t _ S2 (r1.go S1.cell.hρ f2) (r2.older f1) e ?_
      refine ⟨t, rfl, ?_⟩
      cases t with
      | false =>
        simp only [e] at y1
        rw [if_neg Bool.false_ne_true]
        exact y1 _ H2 (f1.trans f2) S2.cell (Rp.bl false)
      | true =>
        simp only [e] at y1
        rw [if_pos rfl]
        refine tV.part S2 (y1.move f2 fun _ _ z => z).bind fun q2 m3 w' H3 S3 f3 r3 y2 => ?_
        cases e2 : cmpD p q1.1 q2.1 with
        | none => simp only [e2] at y2; exact y2.elim
        | some t2 =>
          simp only [e2] at y2
          exact A2.hk O ρ σ env m3 H H3 u w' q1.1 q2.1 q1.2 q2.2 t2 _ S3 ((r2.older f1).go S2.cell.hρ f3) (r3.older (f1.trans f2)) e2 (y2 _ H3 (f1.trans (f2.trans f3)) S3.cell (Rp.bl t2))
  constructor
  · exact PE.imp (pe_chain A1.ho A2.ho ha hb hd hm) key
  · refine PT.imp (pt_chain A1.ho A2.ho ha hb hd hm) fun σ H Q q => ?_
    refine key σ H (fun x H' => ∃ k, x = .bl k ∧ Q k H') ?_
    obtain ⟨O, ρ, env, m, S, q⟩ := q
    refine ⟨O, ρ, env, m, S, q.mono fun p m1 _ x v H1 f1 c1 r1 => ?_⟩
    obtain ⟨k, e, q⟩ := x
    rw [e] at r1
    exact ⟨k, r1.bl, q H1 f1 c1⟩

/-! ### is None -/
theorem ve_isb (k : Cok X c C n W) (hm : behindInMarks .Is b = false) (ha : VE X W a (ev C x)) (hb : VE X W b (ev C y)) : VE X W (.Compare a [.Is] [b] pos) (ev C (.cmp .isb x y)) ∧ VT X W (.Compare a [.Is] [b] pos) (ev C (.cmp .isb x y)) :=
  ve_cmp op_isBl hm ha hb fun O ρ σ env m H0 H1 v u d e fd fe q Q S r1 r2 hq hQ => by
    cases d with
    | bool p => cases e with
      | bool q => cases hq; exact ⟨p, q, r1.bl, r2.bl, hQ⟩
      | _ => cases hq
    | _ => cases hq
theorem ve_isnb (k : Cok X c C n W) (hm : behindInMarks .IsNot b = false) (ha : VE X W a (ev C x)) (hb : VE X W b (ev C y)) : VE X W (.Compare a [.IsNot] [b] pos) (ev C (.cmp .isnb x y)) ∧ VT X W (.Compare a [.IsNot] [b] pos) (ev C (.cmp .isnb x y)) :=
  ve_cmp op_notBl hm ha hb fun O ρ σ env m H0 H1 v u d e fd fe q Q S r1 r2 hq hQ => by
    cases d with
    | bool p => cases e with
      | bool q => cases hq; exact ⟨p, q, r1.bl, r2.bl, hQ⟩
      | _ => cases hq
    | _ => cases hq
theorem isNone_of {B : Bs} {O : Hot} {ρ : Option Addr} {H0 H : Hp} {v : V} {d : PyData} {fl : Fl} (r : RF B O ρ H0 H v d fl) : decide (v = .non) = isNoneD d := by
  rcases r.bw with q | ⟨a, e, q⟩
  · cases q <;> simp [isNoneD]
  · subst e
    cases q <;> simp [isNoneD]
theorem vt_plain {e : Expr} {f : EvF} (h : VE X W e f) (he : ∀ whole, isTrue e X.env whole = (do let v ← whole; standAt e.pos; holding [v] (truthy v))) : VT X W e f := vt_of h he
theorem ve_isNone {j : Nat} (ha : VE X W a (ev C x)) : VE X W (.Compare a [.Is] [.Constant .none j p2] pos) (ev C (.isNone x)) ∧ VT X W (.Compare a [.Is] [.Constant .none j p2] pos) (ev C (.isNone x)) := by
  have key : ∀ σ H (Q : VK), tV (bsOf X) X.mg W (ev C (.isNone x)) σ H Q → tIsN (tV (bsOf X) X.mg W (ev C x)) σ H Q := by
    intro σ H Q q
    obtain ⟨O, ρ, env, m, S, h⟩ := q
    rw [ev] at h
    refine tV.part S h.bind fun p1 m1 v H1 S1 f1 r1 x1 => ?_
    rw [isNone_of r1]
    exact x1 _ H1 f1 S1.cell (Rp.bl _)
  refine ⟨PE.imp (pe_cmp (pc_isN ha)) key, PT.imp (pt_cmp (pc_isN ha)) fun σ H Q q => ?_⟩
  refine key σ H (fun x H' => ∃ k, x = .bl k ∧ Q k H') ?_
  obtain ⟨O, ρ, env, m, S, q⟩ := q
  refine ⟨O, ρ, env, m, S, q.mono fun p m1 _ x v H1 f1 c1 r1 => ?_⟩
  obtain ⟨k, e, q⟩ := x
  rw [e] at r1
  exact ⟨k, r1.bl, q H1 f1 c1⟩
theorem ve_notNone {j : Nat} (ha : VE X W a (ev C x)) : VE X W (.Compare a [.IsNot] [.Constant .none j p2] pos) (ev C (.notNone x)) ∧ VT X W (.Compare a [.IsNot] [.Constant .none j p2] pos) (ev C (.notNone x)) := by
  have key : ∀ σ H (Q : VK), tV (bsOf X) X.mg W (ev C (.notNone x)) σ H Q → tNotN (tV (bsOf X) X.mg W (ev C x)) σ H Q := by
    intro σ H Q q
    obtain ⟨O, ρ, env, m, S, h⟩ := q
    rw [ev] at h
    refine tV.part S h.bind fun p1 m1 v H1 S1 f1 r1 x1 => ?_
    rw [isNone_of r1]
    exact x1 _ H1 f1 S1.cell (Rp.bl _)
  refine ⟨PE.imp (pe_cmp (pc_notN ha)) key, PT.imp (pt_cmp (pc_notN ha)) fun σ H Q q => ?_⟩
  refine key σ H (fun x H' => ∃ k, x = .bl k ∧ Q k H') ?_
  obtain ⟨O, ρ, env, m, S, q⟩ := q
  refine ⟨O, ρ, env, m, S, q.mono fun p m1 _ x v H1 f1 c1 r1 => ?_⟩
  obtain ⟨k, e, q⟩ := x
  rw [e] at r1
  exact ⟨k, r1.bl, q H1 f1 c1⟩

/-! ### and, or, not, if -/
theorem tV.test {f : EvF} {σ : L2.St} {H : Hp} {R : Bool → Hp → Prop} {O : Hot} {ρ : Option Addr} {env : Ev} {m : Mu} {B : Bs} {mg : Str → Option Value} {Y : PyData × Fl → Mu → Prop} (S : SR B O ρ σ H env m) (h : Pg ⟨B, mg, O, ρ, W⟩ σ H Y (f env m))
    (k : ∀ p m1 H1, SR B O ρ σ H1 env m1 → Fr ρ H H1 → Y p m1 → ∃ t, p.1 = .bool t ∧ R t H1) (ok : ∀ p m1, Y p m1 → ∃ t, p.1 = .bool t) : tT B mg W f σ H R :=
  ⟨O, ρ, env, m, S, h.mono fun p m1 _ x => by
    obtain ⟨t, e⟩ := ok p m1 x
    refine ⟨t, e, fun H1 f1 c1 => ?_⟩
    obtain ⟨t', e', q⟩ := k p m1 H1 (S.step f1 c1) f1 x
    rw [e] at e'; cases e'
    exact q⟩
theorem vw_and {rest : List Expr} (ha : VT X W a (ev C x)) (hb : PW X (.BoolOp .And (b :: rest) pos) (tT (bsOf X) X.mg W (ev C y))) : PW X (.BoolOp .And (a :: b :: rest) pos) (tT (bsOf X) X.mg W (ev C (.and x y))) := by
  refine ⟨fun wh pins s σ H Q I q => (pw_and ha hb).run wh pins s σ H Q I ?_⟩
  obtain ⟨O, ρ, env, m, S, h⟩ := q
  rw [ev] at h
  refine tV.test S h.bind (fun p1 m1 H1 S1 f1 x1 => ?_) fun p1 m1 x1 => ?_
  · obtain ⟨d, fl⟩ := p1
    cases d with
    | bool t =>
      refine ⟨t, rfl, ?_⟩
      cases t with
      | true => rw [if_pos rfl]; exact ⟨O, ρ, env, m1, S1, Pg.move x1 f1 fun p m => Tq.move f1 p m⟩
      | false =>
        rw [if_neg Bool.false_ne_true]
        obtain ⟨k, e, q⟩ := x1
        cases e
        exact q H1 f1 S1.cell
    | _ => exact x1.elim
  · obtain ⟨d, fl⟩ := p1
    cases d with
    | bool t => exact ⟨t, rfl⟩
    | _ => exact x1.elim
theorem vw_or {rest : List Expr} (ha : VT X W a (ev C x)) (hb : PW X (.BoolOp .Or (b :: rest) pos) (tT (bsOf X) X.mg W (ev C y))) : PW X (.BoolOp .Or (a :: b :: rest) pos) (tT (bsOf X) X.mg W (ev C (.or x y))) := by
  refine ⟨fun wh pins s σ H Q I q => (pw_or ha hb).run wh pins s σ H Q I ?_⟩
  obtain ⟨O, ρ, env, m, S, h⟩ := q
  rw [ev] at h
  refine tV.test S h.bind (fun p1 m1 H1 S1 f1 x1 => ?_) fun p1 m1 x1 => ?_
  · obtain ⟨d, fl⟩ := p1
    cases d with
    | bool t =>
      refine ⟨t, rfl, ?_⟩
      cases t with
      | false => rw [if_neg Bool.false_ne_true]; exact ⟨O, ρ, env, m1, S1, Pg.move x1 f1 fun p m => Tq.move f1 p m⟩
      | true =>
        rw [if_pos rfl]
        obtain ⟨k, e, q⟩ := x1
        cases e
        exact q H1 f1 S1.cell
    | _ => exact x1.elim
  · obtain ⟨d, fl⟩ := p1
    cases d with
    | bool t => exact ⟨t, rfl⟩
    | _ => exact x1.elim
theorem ve_and {rest : List Expr} (ha : VE X W a (ev C x)) (hb : PE X (.BoolOp .And (b :: rest) pos) (tV (bsOf X) X.mg W (ev C y))) : VE X W (.BoolOp .And (a :: b :: rest) pos) (ev C (.and x y)) := by
  refine PE.imp (pe_and ha hb) fun σ H Q q => ?_
  obtain ⟨O, ρ, env, m, S, h⟩ := q
  rw [ev] at h
  refine tV.part S h.bind fun p1 m1 v H1 S1 f1 r1 x1 => ?_
  obtain ⟨d, fl⟩ := p1
  cases d with
  | bool t =>
    refine ⟨t, r1.bl, ?_⟩
    cases t with
    | true => rw [if_pos rfl]; exact ⟨O, ρ, env, m1, S1, Pg.move x1 f1 fun p m => Vq.move f1 p m⟩
    | false => rw [if_neg Bool.false_ne_true]; exact x1 _ H1 f1 S1.cell (Rp.bl false)
  | _ => exact x1.elim
theorem ve_or {rest : List Expr} (ha : VE X W a (ev C x)) (hb : PE X (.BoolOp .Or (b :: rest) pos) (tV (bsOf X) X.mg W (ev C y))) : VE X W (.BoolOp .Or (a :: b :: rest) pos) (ev C (.or x y)) := by
  refine PE.imp (pe_or ha hb) fun σ H Q q => ?_
  obtain ⟨O, ρ, env, m, S, h⟩ := q
  rw [ev] at h
  refine tV.part S h.bind fun p1 m1 v H1 S1 f1 r1 x1 => ?_
  obtain ⟨d, fl⟩ := p1
  cases d with
  | bool t =>
    refine ⟨t, r1.bl, ?_⟩
    cases t with
    | false => rw [if_neg Bool.false_ne_true]; exact ⟨O, ρ, env, m1, S1, Pg.move x1 f1 fun p m => Vq.move f1 p m⟩
    | true => rw [if_pos rfl]; exact x1 _ H1 f1 S1.cell (Rp.bl true)
  | _ => exact x1.elim
theorem ve_not (ha : VE X W a (ev C x)) : VE X W (.UnaryOp .Not a pos) (ev C (.not x)) := by
  refine PE.imp (pe_not ha) fun σ H Q q => ?_
  obtain ⟨O, ρ, env, m, S, h⟩ := q
  rw [ev] at h
  refine tV.part S h.bind fun p1 m1 v H1 S1 f1 r1 x1 => ?_
  obtain ⟨d, fl⟩ := p1
  cases d with
  | bool t => exact ⟨t, r1.bl, x1 _ H1 f1 S1.cell (Rp.bl _)⟩
  | _ => exact x1.elim
theorem vt_not (ha : VT X W a (ev C x)) : VT X W (.UnaryOp .Not a pos) (ev C (.not x)) := by
  refine PT.imp (pt_not ha) fun σ H Q q => ?_
  obtain ⟨O, ρ, env, m, S, h⟩ := q
  rw [ev] at h
  refine tV.test S h.bind (fun p1 m1 H1 S1 f1 x1 => ?_) fun p1 m1 x1 => ?_
  · obtain ⟨d, fl⟩ := p1
    cases d with
    | bool t =>
      obtain ⟨k, e, q⟩ := x1
      cases e
      exact ⟨t, rfl, q H1 f1 S1.cell⟩
    | _ => exact x1.elim
  · obtain ⟨d, fl⟩ := p1
    cases d with
    | bool t => exact ⟨t, rfl⟩
    | _ => exact x1.elim
theorem ve_ite (hd : VT X W d (ev C z)) (ha : VE X W a (ev C x)) (hb : VE X W b (ev C y)) : VE X W (.IfExp d a b pos) (ev C (.ite z x y)) := by
  refine PE.imp (pe_ifExp hd ha hb) fun σ H Q q => ?_
  obtain ⟨O, ρ, env, m, S, h⟩ := q
  rw [ev] at h
  refine tV.test S h.bind (fun p1 m1 H1 S1 f1 x1 => ?_) fun p1 m1 x1 => ?_
  · obtain ⟨dd, fl⟩ := p1
    cases dd with
    | bool t =>
      refine ⟨t, rfl, ?_⟩
      cases t with
      | true => rw [if_pos rfl]; exact ⟨O, ρ, env, m1, S1, Pg.move x1 f1 fun p m => Vq.move f1 p m⟩
      | false => rw [if_neg Bool.false_ne_true]; exact ⟨O, ρ, env, m1, S1, Pg.move x1 f1 fun p m => Vq.move f1 p m⟩
    | _ => exact x1.elim
  · obtain ⟨dd, fl⟩ := p1
    cases dd with
    | bool t => exact ⟨t, rfl⟩
    | _ => exact x1.elim
end
end Tw
set_option Elab.async false
set_option linter.all false
set_option maxRecDepth 100000
set_option maxHeartbeats 1000000
/-! Subscripts, slices, displays, calls. -/
namespace Tw
open PySem PySem.Spec PyProof.Rows L2
section
variable {X : Cx} {W : WX} {c : Ck} {C : Calls} {n : Nat} {e a b d : Expr} {pos p2 : Pos} {x y z : Ex}
theorem rep_ok : OpR X (binaryOp .Mult) (fun x y H Q => ∃ l k xs, x = .ref l ∧ y = .int k ∧ Rd H l (.lst xs) ∧ -(2 ^ 63) ≤ k ∧ k < 2 ^ 63 ∧ xs.length * k.toNat ≤ sizeLine ∧
    ∀ p, H p = none → Q (.ref p) (upd H p (.lst (List.replicate k.toNat xs).flatten))) := by
  intro pins s σ H x y v u Q I rx ry h
  obtain ⟨l, k, xs, rfl, rfl, hH, h1, h2, hz, q⟩ := h
  cases rx
  obtain ⟨t, rfl⟩ := ry
  obtain ⟨z, its, n, r, e⟩ := hH.ok I.hok
  have hl := r.length
  have hlen : its.toArray.size * k.toNat ≤ sizeLine := by rw [List.size_toArray, ← hl]; exact hz
  have hcap : ¬ its.toArray.size * k.toNat > (2 ^ 63 - 1) / 8 := by
    have : (sizeLine : Nat) ≤ (2 ^ 63 - 1) / 8 := by decide
    omega
  have hfit : ¬ (!Builtin.List.listFitsIndex k) = true := by
    rw [fitsIndex_both h1 h2]
    exact Bool.false_ne_true
  have hlong : ¬ Builtin.List.listTooLong (its.toArray.size * k.toNat) = true := by
    rw [notLongL hlen]
    exact Bool.false_ne_true
  have hnew : List.foldl (fun x1 x2 => x1 ++ x2) #[] (List.replicate (if its.toArray.isEmpty = true then 0 else k.toNat) its.toArray) = (List.replicate k.toNat its).flatten.toArray := by
    have f0 : ∀ m : Nat, List.foldl (fun x1 x2 => x1 ++ x2) #[] (List.replicate m its.toArray) = (List.replicate m its).flatten.toArray := fun m => by
      have := foldl_rep its m []
      rw [List.nil_append] at this
      exact this
    rw [f0]
    cases its with
    | nil => simp
    | cons a r' => rw [if_neg (by simp)]
  refine wpAny_binaryOp_repeat_ref (T := "list") (U := "int") (by decide) ⟨_, e, rfl⟩ (fun s' => typeIs_int s' k t) noFill_list_mul F.fills_int_mul F.slot_int_rmul repeat_list F.slot_int_index.lookup
    (call_meets F.slot_int_rmul (typeIs_int s k t) F.entry_int_rmul (F.args_int_rmul_2 _ _) (int___rmul___int_list k t l its.toArray n)
      ⟨e, rfl, ⟨_, e, rfl⟩, call_meets F.slot_list_mul ⟨_, e, rfl⟩ F.entry_list_mul (F.args_list_mul_2 _ _) (AutoListH.list___mul___list_int_3 l its.toArray n k t hfit hcap hlong) ⟨e, ?_⟩⟩)
  rw [hnew]
  exact ⟨.ref _, _, I.lnew (t' := s.toks) (r.rep k.toNat) (by rw [PyProof.Rows.lm_len_rep_flat, Nat.mul_comm]; exact hz), rfl, q _ I.fresh⟩
theorem ve_mul (k : Cok X c C n W) (ha : VE X W a (ev C x)) (hb : VE X W b (ev C y)) : VE X W (.BinOp a .Mult b pos) (ev C (.bin .mul x y)) := by
  refine ve_bin (op_mul.or rep_ok) ha hb fun O ρ σ env m H0 H1 v u d e fd fe q Q S r1 r2 hq k => ?_
  unfold binD at hq
  split at hq <;> try (cases hq; done)
  all_goals try (rename_i h0; cases h0; done)
  · split at hq
    · rename_i i j _ hz
      cases hq
      unfold smallI at hz
      simp only [Bool.or_eq_true, decide_eq_true_eq] at hz
      exact .inl ⟨_, _, r1.int, r2.int, hz, k _ _ (.refl _ _) S.cell (Rp.int _)⟩
    · cases hq
  · split at hq
    · rename_i xs j _ hz
      cases hq
      simp only [Bool.and_eq_true, decide_eq_true_eq] at hz
      obtain ⟨⟨h1, h2⟩, h3⟩ := hz
      obtain ⟨l, vs, rfl, hl, kl⟩ := r1.list
      refine .inr ⟨l, j, vs, rfl, r2.int, hl, by omega, by omega, by rw [kl.length]; exact sz_ok h3, fun p np => ?_⟩
      exact k _ _ (.upd np) (S.cell.new np) (RF.newL S.cell (.refl _ _) np (kl.rep j.toNat))
    · cases hq

/-! ### a[i] -/
theorem atI_rps {B : Bs} {O : Hot} {H : Hp} {vs : List V} {ds : List PyData} {i : Int} {d : PyData} (k : Rps B O H vs ds) (h : atI ds i = some d) : ∃ v, atI vs i = some v ∧ Rp B O H v d := by
  unfold atI at h ⊢
  rw [k.length]
  cases e : ixN ds.length i with
  | none => rw [e] at h; cases h
  | some j =>
    rw [e] at h
    exact k.get h
theorem plainIx {b : Expr} (h : (match b with | .Slice .. => false | _ => true) = true) : PlainIx b := fun o i => by
  cases b with
  | Slice => cases h
  | _ => rfl
theorem ve_ix (k : Cok X c C n W) (hp : PlainIx b) (ha : VE X W a (ev C x)) (hb : VE X W b (ev C y)) : VE X W (.Subscript a b pos) (ev C (.ix x y)) := by
  refine PE.imp (pe_ix (((ix_list.or ix_tup).or ix_str).or (ix_dict k)) ha hb hp) fun σ H Q q => ?_
  refine tV.two (op := fun p q => (ixD p.1 q.1).map fun d => (d, .c)) (by simpa only [ev] using q) fun O ρ env m H0 H1 v u p q r S r1 r2 e k => ?_
  cases e' : ixD p.1 q.1 with
  | none => rw [e'] at e; cases e
  | some w =>
    rw [e'] at e; cases e
    unfold ixD at e'
    generalize hd1 : p.1 = d1 at *
    generalize hd2 : q.1 = d2 at *
    split at e'
    · obtain ⟨l, vs, rfl, hl, kl⟩ := r1.list
      obtain ⟨w', e1, e2⟩ := atI_rps kl e'
      exact .inl (.inl (.inl ⟨l, vs, _, w', rfl, r2.int, sqL_of hl, e1, k _ _ (.refl _ _) S.cell e2⟩))
    · obtain ⟨l, vs, rfl, hl, kl⟩ := r1.tuple
      obtain ⟨w', e1, e2⟩ := atI_rps kl e'
      exact .inl (.inl (.inr ⟨l, vs, _, w', rfl, r2.int, hl, e1, k _ _ (.refl _ _) S.cell e2⟩))
    · split at e'
      · rename_i hz
        obtain ⟨ch, e1, e2⟩ := Option.map_eq_some_iff.mp e'
        subst e2
        exact .inl (.inr ⟨_, _, ch, r1.str, r2.int, sz_ok hz, e1, k _ _ (.refl _ _) S.cell (Rp.str _)⟩)
      · cases e'
    · split at e'
      · rename_i hk
        obtain ⟨ad, xs, e1, sm, h1, nd, _, he⟩ := r1.dict
        obtain ⟨_, ts, et⟩ := keyOk_key hk
        subst et
        refine .inr ⟨O, _, ad, xs, _, w, RF.keepT (H1 := H1) r2, hk, e1, sm, h1, nd, he, e', fun v' r' => k _ _ (.refl _ _) S.cell r'⟩
      · cases e'
    · cases e'
theorem getS_some {env : Ev} {i : Nat} {s : Sl} (es : getS env i = some s) : env[i]? = some (some s) := by
  unfold getS at es
  split at es
  · cases es; assumption
  · cases es
/-- the cell's item -/
theorem ve_cellIx (k : Cok X c C n W) {i t : Nat} {j : Nat} {xx : Str} {p1 : Pos} (h : visB c i xx = true) : VE X W (.Subscript (.Name xx p1) (.Constant (.int (t : Nat)) j p2) pos) (ev C (.cellIx i t)) := by
  obtain ⟨h1, h2, h3, h4⟩ := visB_ok k h
  refine PE.imp (pe_ix ix_list (pe_var h1 h2 h3 h4) pe_int (plainIx rfl)) fun σ H Q q => ?_
  obtain ⟨O, ρ, env, m, S, q⟩ := q
  rw [ev] at q
  cases e : cellGet (getS env i) m t with
  | none => rw [e] at q; exact q.elim
  | some w =>
    rw [e] at q
    unfold cellGet at e
    split at e
    · rename_i p nn es
      obtain ⟨v, hv, r⟩ := S.slot i _ (getS_some es)
      obtain ⟨ad, er, ev⟩ := r
      obtain ⟨ad', qq, er', o, h, sc⟩ := S.cell
      rw [er] at er'; cases er'
      obtain ⟨w', e3, e4⟩ := Option.map_eq_some_iff.mp e
      subst e4
      exact ⟨v, hv, ad, _, (nn + 1 : Nat), .int w', ev, rfl, SqL.of h, atI_nat (by simp [e3]), q _ _ (.refl _ _) S.cell (Rp.int _)⟩
    · cases e
/-- what reads the script behind the cell -/
theorem scr_at {B : Bs} {O : Hot} {ρ : Option Addr} {σ : L2.St} {H : Hp} {env : Ev} {m : Mu} {i : Nat} {ns : List Int} (S : SR B O ρ σ H env m) (e : scrGet (getS env i) m = some ns) :
    ∃ a q ks, σ[i]? = some (some (.ref a)) ∧ H a = some (.lst (.ref q :: ks)) ∧ Scr B.K H q ns := by
  unfold scrGet at e
  split at e
  · rename_i p es
    cases e
    obtain ⟨v, hv, r⟩ := S.slot i _ (getS_some es)
    obtain ⟨ad, er, ev⟩ := r
    obtain ⟨ad', qq, er', o, h, sc⟩ := S.cell
    rw [er] at er'; cases er'
    rw [ev] at hv
    exact ⟨ad, qq, _, hv, h, sc⟩
  · cases e
theorem pe_scr (k : Cok X c C n W) {i : Nat} {j : Nat} {xx : Str} {p1 : Pos} (h : visB c i xx = true) : PE X (.Subscript (.Name xx p1) (.Constant (.int 0) j p2) pos) (fun σ H Q => ∃ a q ks, σ[i]? = some (some (.ref a)) ∧ H a = some (.lst (.ref q :: ks)) ∧ Q (.ref q) H) := by
  obtain ⟨h1, h2, h3, h4⟩ := visB_ok k h
  refine PE.imp (pe_ix ix_list (pe_var h1 h2 h3 h4) pe_int (plainIx rfl)) fun σ H Q q => ?_
  obtain ⟨a, q', ks, e1, e2, q⟩ := q
  exact ⟨_, e1, a, _, ((0 : Nat) : Int), .ref q', rfl, rfl, SqL.of e2, atI_nat rfl, q⟩
theorem ve_scrIx (k : Cok X c C n W) {i : Nat} {j : Nat} {xx : Str} {p1 p3 : Pos} (h : visB c i xx = true) (hp : PlainIx b) (hb : VE X W b (ev C y)) : VE X W (.Subscript (.Subscript (.Name xx p1) (.Constant (.int 0) j p2) p3) b pos) (ev C (.scrIx i y)) := by
  refine PE.imp (pe_ix ix_list (pe_scr k h) hb hp) fun σ H Q q => ?_
  obtain ⟨O, ρ, env, m, S, q⟩ := q
  rw [ev] at q
  cases e : scrGet (getS env i) m with
  | none => rw [e] at q; exact q.elim
  | some ns =>
    rw [e] at q
    obtain ⟨a, qd, ks, e1, e2, sc⟩ := scr_at S e
    refine ⟨a, qd, ks, e1, e2, ?_⟩
    refine tV.part S q.bind fun p1 m1 u H1 S1 f1 r1 x1 => ?_
    cases ei : intOf p1.1 with
    | none => simp only [ei] at x1; exact x1.elim
    | some kk =>
      cases ea : L2.atI ns kk with
      | none => simp only [ei, Option.bind, ea] at x1; exact x1.elim
      | some jj =>
        simp only [ei, Option.bind, ea] at x1
        have ed : p1.1 = .int kk := by
          obtain ⟨d, fl⟩ := p1
          cases d <;> simp [intOf] at ei
          subst ei; rfl
        have rr : RF (bsOf X) O ρ H H1 u (.int kk) p1.2 := by rw [← ed]; exact r1
        have hs : SqL X.K H1 qd (ns.map V.int) := by
          rcases sc with ⟨o, sc⟩ | sc
          · refine .inl (.inr ⟨o, f1 qd _ (fun z => ?_) sc⟩)
            have hc := S.cell
            cases m with
            | none => simp [scrGet] at e
            | some p =>
              obtain ⟨b, q2, e3, _, h5, _⟩ := hc
              rw [z] at e3; cases e3
              rw [h5] at sc; cases sc
          · exact sc H1
        refine ⟨qd, ns.map V.int, kk, .int jj, rfl, rr.int, hs, ?_, x1 _ H1 f1 S1.cell (Rp.int _)⟩
        unfold L2.atI at ea ⊢
        rw [List.length_map]
        cases ez : ixN ns.length kk with
        | none => rw [ez] at ea; cases ea
        | some t =>
          rw [ez] at ea
          simp only [Option.bind] at ea ⊢
          simp [ea]
/-! ### slices -/
theorem cutV_rps {B : Bs} {O : Hot} {H : Hp} {vs : List V} {ds : List PyData} {lo hi : Option Int} (k : Rps B O H vs ds) : Rps B O H (cutV vs lo hi) (cutL ds lo hi) := by
  unfold cutV cutL
  rw [k.length]
  exact (k.drop _).take _
theorem cut_whole {α : Type} {xs : List α} {lo hi : Option Int} (h : HT.sIx xs.length 0 lo = 0 ∧ HT.sIx xs.length xs.length hi = xs.length) : cutL xs lo hi = xs := by
  unfold cutL
  rw [h.1, h.2]
  simp
abbrev slR (K : PySem.W.Frag) : V → Option Int → Option Int → Hp → VK → Prop := fun x lo hi H Q => (rSlL K x lo hi H Q ∨ rSlA K x lo hi H Q) ∨ rSlS x lo hi H Q
theorem sl_all : L2.SlR X (slR X.K) := (sl_list.or sl_tupA).or sl_str
theorem slD_ok {O : Hot} {ρ : Option Addr} {σ : L2.St} {env : Ev} {m : Mu} {H0 H1 : Hp} {v : V} {d : PyData} {fl : Fl} {lo hi : Option Int} {q : PyData × Fl} {Q : VK} (S : SR (bsOf X) O ρ σ H1 env m) (r : RF (bsOf X) O ρ H0 H1 v d fl) (h : sliceD d lo hi = some q)
    (k : ∀ w H', Fr ρ H1 H' → Cell (bsOf X) O ρ H' m → RF (bsOf X) O ρ H1 H' w q.1 q.2 → Q w H') : slR X.K v lo hi H1 Q := by
  unfold sliceD at h
  cases d with
  | list xs =>
    cases h
    obtain ⟨l, vs, rfl, hl, kl⟩ := r.list
    exact .inl (.inl ⟨l, vs, rfl, sqL_of hl, fun p np => k _ _ (.upd np) (S.cell.new np) (RF.newL S.cell (.refl _ _) np (cutV_rps kl))⟩)
  | tuple xs =>
    cases h
    obtain ⟨l, vs, rfl, hl, kl⟩ := r.tuple
    refine .inl (.inr ⟨l, vs, rfl, hl, fun w => ?_, fun _ p np => k _ _ (.upd np) (S.cell.new np) (RF.newT S.cell S.hot np (cutV_rps kl))⟩)
    rw [kl.length] at w
    refine k _ _ (.refl _ _) S.cell ?_
    simp only
    rw [cut_whole w]
    exact RF.keepT r
  | str zz =>
    simp only at h
    split at h
    · rename_i hz
      cases h
      refine .inr ⟨zz, r.str, sz_ok hz, ?_⟩
      have : cutS zz lo hi = ⟨(cutL zz.cps.toList lo hi).toArray⟩ := by
        unfold cutS cutL
        rw [show zz.cps.toList.length = zz.length by simp [Str.length]]
      rw [this]
      exact k _ _ (.refl _ _) S.cell (Rp.str _)
    · cases h
  | _ => cases h
theorem tV.intPart {f : EvF} {R : Option Int → Hp → Prop} {σ : L2.St} {H : Hp} {B : Bs} {mg : Str → Option Value} {O : Hot} {ρ : Option Addr} {env : Ev} {m : Mu} {Y : PyData × Fl → Mu → Prop} (S : SR B O ρ σ H env m) (h : Pg ⟨B, mg, O, ρ, W⟩ σ H Y (f env m))
    (k : ∀ i fl m1 H1, SR B O ρ σ H1 env m1 → Fr ρ H H1 → Y (.int i, fl) m1 → R (some i) H1) (ok : ∀ p m1, Y p m1 → ∃ i, p.1 = .int i) : tPart (tV B mg W f) σ H R := by
  refine tV.part S h fun p m1 v H1 S1 f1 r1 x1 => ?_
  obtain ⟨i, e⟩ := ok p m1 x1
  obtain ⟨d, fl⟩ := p
  simp only at e
  subst e
  exact ⟨i, r1.int, k i fl m1 H1 S1 f1 x1⟩
theorem ve_sliceTo (ha : VE X W a (ev C x)) (hb : VE X W b (ev C y)) : VE X W (.Subscript a (.Slice none (some b) none p2) pos) (ev C (.sliceTo x y)) := by
  refine PE.imp (pe_slice sl_all ha po_none (po_some hb)) fun σ H Q q => ?_
  obtain ⟨O, ρ, env, m, S, h⟩ := q
  rw [ev] at h
  refine tV.part S h.bind fun p1 m1 v H1 S1 f1 r1 x1 => ?_
  unfold tNoPart
  refine tV.intPart S1 (x1.move f1 fun _ _ z => z).bind (fun i fl m2 H2 S2 f2 y1 => ?_) fun p m2 y1 => ?_
  · simp only at y1
    cases e : sliceD p1.1 none (some i) with
    | none => rw [e] at y1; exact y1.elim
    | some q =>
      rw [e] at y1
      exact slD_ok S2 (r1.go S1.cell.hρ f2) e fun w H' f3 c3 r3 => y1 w H' (f1.trans (f2.trans f3)) c3 (r3.older (f1.trans f2))
  · obtain ⟨d, fl⟩ := p
    cases d with
    | int i => exact ⟨i, rfl⟩
    | _ => exact y1.elim
theorem ve_sliceFrom (ha : VE X W a (ev C x)) (hb : VE X W b (ev C y)) : VE X W (.Subscript a (.Slice (some b) none none p2) pos) (ev C (.sliceFrom x y)) := by
  refine PE.imp (pe_slice sl_all ha (po_some hb) po_none) fun σ H Q q => ?_
  obtain ⟨O, ρ, env, m, S, h⟩ := q
  rw [ev] at h
  refine tV.part S h.bind fun p1 m1 v H1 S1 f1 r1 x1 => ?_
  show tPart _ σ H1 _
  refine tV.intPart S1 (x1.move f1 fun _ _ z => z).bind (fun i fl m2 H2 S2 f2 y1 => ?_) fun p m2 y1 => ?_
  · simp only at y1
    cases e : sliceD p1.1 (some i) none with
    | none => rw [e] at y1; exact y1.elim
    | some q =>
      rw [e] at y1
      exact slD_ok S2 (r1.go S1.cell.hρ f2) e fun w H' f3 c3 r3 => y1 w H' (f1.trans (f2.trans f3)) c3 (r3.older (f1.trans f2))
  · obtain ⟨d, fl⟩ := p
    cases d with
    | int i => exact ⟨i, rfl⟩
    | _ => exact y1.elim
theorem ve_slice (ha : VE X W a (ev C x)) (hb : VE X W b (ev C y)) (hd : VE X W d (ev C z)) : VE X W (.Subscript a (.Slice (some b) (some d) none p2) pos) (ev C (.slice x y z)) := by
  refine PE.imp (pe_slice sl_all ha (po_some hb) (po_some hd)) fun σ H Q q => ?_
  obtain ⟨O, ρ, env, m, S, h⟩ := q
  rw [ev] at h
  refine tV.part S h.bind fun p1 m1 v H1 S1 f1 r1 x1 => ?_
  show tPart _ σ H1 _
  refine tV.intPart S1 (x1.move f1 fun _ _ z => z).bind (fun i fl m2 H2 S2 f2 y1 => ?_) fun p m2 y1 => ?_
  · simp only at y1
    show tPart _ σ H2 _
    refine tV.intPart S2 (y1.move f2 fun _ _ z => z).bind (fun j fl m3 H3 S3 f3 y2 => ?_) fun p m3 y2 => ?_
    · simp only at y2
      cases e : sliceD p1.1 (some i) (some j) with
      | none => rw [e] at y2; exact y2.elim
      | some q =>
        rw [e] at y2
        exact slD_ok S3 (r1.go S1.cell.hρ (f2.trans f3)) e fun w H' f4 c4 r4 => y2 w H' (f1.trans (f2.trans (f3.trans f4))) c4 (r4.older (f1.trans (f2.trans f3)))
    · obtain ⟨d, fl⟩ := p
      cases d with
      | int i => exact ⟨i, rfl⟩
      | _ => exact y2.elim
  · obtain ⟨d, fl⟩ := p
    cases d with
    | int i => exact ⟨i, rfl⟩
    | _ => exact y1.elim

/-! ### displays and arguments -/
def lenX : Exs → Nat
  | .nil => 0
  | .cons _ r => lenX r + 1
theorem evs_len : ∀ (r : Exs) (env : Ev) (m : Mu) (ds : List PyData) (m' : Mu), evs C r env m = .ok ds m' → ds.length = lenX r
  | .nil, env, m, ds, m', h => by
    rw [evs] at h
    cases h
    rfl
  | .cons e r, env, m, ds, m', h => by
    rw [evs] at h
    cases h1 : ev C e env m with
    | ok p m1 =>
      rw [h1, Out.bind_ok] at h
      cases h2 : keepD p with
      | none => rw [h2] at h; cases h
      | some d =>
        rw [h2] at h
        simp only at h
        cases h3 : evs C r env m1 with
        | ok es m2 =>
          rw [h3, Out.bind_ok] at h
          cases h
          simp [lenX, evs_len r _ _ _ _ h3]
        | ex c fs m2 => rw [h3] at h; cases h
        | bad => rw [h3] at h; cases h
    | ex c fs m1 => rw [h1] at h; cases h
    | bad => rw [h1] at h; cases h
theorem evA_len : ∀ (r : Exs) (env : Ev) (m : Mu) (ds : List Vl) (m' : Mu), evA C r env m = .ok ds m' → ds.length = lenX r
  | .nil, env, m, ds, m', h => by
    rw [evA] at h
    cases h
    rfl
  | .cons e r, env, m, ds, m', h => by
    rw [evA] at h
    cases hc : isCell env e with
    | true =>
      rw [hc] at h
      simp only at h
      cases h3 : evA C r env m with
      | ok es m2 =>
        rw [h3, Out.bind_ok] at h
        cases h
        simp [lenX, evA_len r _ _ _ _ h3]
      | ex c fs m2 => rw [h3] at h; cases h
      | bad => rw [h3] at h; cases h
    | false =>
      rw [hc] at h
      simp only at h
      cases h1 : ev C e env m with
      | ok p m1 =>
        rw [h1, Out.bind_ok] at h
        cases h2 : keepD p with
        | none => rw [h2] at h; cases h
        | some d =>
          rw [h2] at h
          simp only at h
          cases h3 : evA C r env m1 with
          | ok es m2 =>
            rw [h3, Out.bind_ok] at h
            cases h
            simp [lenX, evA_len r _ _ _ _ h3]
          | ex c fs m2 => rw [h3] at h; cases h
          | bad => rw [h3] at h; cases h
      | ex c fs m1 => rw [h1] at h; cases h
      | bad => rw [h1] at h; cases h
/-- several expressions, each kept -/
def tAs (B : Bs) (mg : Str → Option Value) (W : WX) (f : Ev → Mu → Out (List PyData)) : TA := fun σ H Q => ∃ O ρ env m, SR B O ρ σ H env m ∧ Pg ⟨B, mg, O, ρ, W⟩ σ H (fun ds m' => ∀ vs H', Fr ρ H H' → Cell B O ρ H' m' → Rps B O H' vs ds → Q vs H') (f env m)
def VEs (X : Cx) (W : WX) (es : List Expr) (f : Ev → Mu → Out (List PyData)) : Prop := PA X es (tAs (bsOf X) X.mg W f)
theorem ves_nil : VEs X W [] (evs C .nil) := PA.imp pa_nil fun σ H Q q => by
  obtain ⟨O, ρ, env, m, S, h⟩ := q
  rw [evs] at h
  exact h [] H (.refl _ _) S.cell .nil
theorem star_ok {e : Expr} {es : List Expr} {env : Env} (h : (match e with | .Starred .. => false | _ => true) = true) : starEach (e :: es) env = (false, eval e env) :: starEach es env := by
  cases e <;> first | rfl | cases h
theorem ves_cons {es : List Expr} {r : Exs} (hst : (match a with | .Starred .. => false | _ => true) = true) (ha : VE X W a (ev C x)) (hr : VEs X W es (evs C r)) : VEs X W (a :: es) (evs C (.cons x r)) := by
  refine PA.imp (pa_cons ha hr (star_ok hst)) fun σ H Q q => ?_
  obtain ⟨O, ρ, env, m, S, h⟩ := q
  rw [evs] at h
  refine tV.part S h.bind fun p1 m1 v H1 S1 f1 r1 x1 => ?_
  cases e : keepD p1 with
  | none => simp only [e] at x1; exact x1.elim
  | some dd =>
    simp only [e] at x1
    have r1' : RF (bsOf X) O ρ H H1 v p1.1 p1.2 := r1
    obtain ⟨e1, rp⟩ := r1'.keep S.hot (show keepD (p1.1, p1.2) = some dd from e)
    refine ⟨O, ρ, env, m1, S1, ?_⟩
    refine (x1.move f1 fun _ _ z => z).bind.mono fun ds m2 _ y vs H2 f2 c2 k2 => ?_
    rw [e1] at y
    exact y _ H2 (f1.trans f2) c2 (.cons (Rp.go (f2.goes S1.cell.hρ) _ _ rp) k2)
theorem ve_tup {es : List Expr} {r : Exs} {j : Nat} (hsz : lenX r ≤ 1000) (hes : VEs X W es (evs C r)) : VE X W (.Tuple es j pos) (ev C (.tup r)) := by
  refine PE.imp (pe_tup hes) fun σ H Q q => ?_
  obtain ⟨O, ρ, env, m, S, h⟩ := q
  rw [ev] at h
  refine ⟨O, ρ, env, m, S, h.bind.mono fun ds m2 e y vs H2 f2 c2 k2 => ?_⟩
  have hh : ds.length = lenX r := evs_len _ _ _ _ _ e
  refine ⟨by rw [k2.length, hh, sizeLine_eq]; omega, fun p np => ?_⟩
  have S2 := S.step f2 c2
  exact y _ _ (f2.trans (.upd np)) (c2.new np) (RF.newT c2 S2.hot np k2)
theorem ve_lst {es : List Expr} {r : Exs} (hsz : lenX r ≤ 1000) (hes : VEs X W es (evs C r)) : VE X W (.List es pos) (ev C (.lst r)) := by
  refine PE.imp (pe_lst hes) fun σ H Q q => ?_
  obtain ⟨O, ρ, env, m, S, h⟩ := q
  rw [ev] at h
  refine ⟨O, ρ, env, m, S, h.bind.mono fun ds m2 e y vs H2 f2 c2 k2 => ?_⟩
  have hh : ds.length = lenX r := evs_len _ _ _ _ _ e
  refine ⟨by rw [k2.length, hh, sizeLine_eq]; omega, fun p np => ?_⟩
  have S2 := S.step f2 c2
  exact y _ _ (f2.trans (.upd np)) (c2.new np) (RF.newL c2 f2 np k2)
/-- what may be handed over -/
def tAg (B : Bs) (mg : Str → Option Value) (W : WX) (f : Ev → Mu → Out (List Vl)) : TA := fun σ H Q => ∃ O ρ env m, SR B O ρ σ H env m ∧ Pg ⟨B, mg, O, ρ, W⟩ σ H (fun xs m' => ∀ vs H', Fr ρ H H' → Cell B O ρ H' m' → ArgRs B O ρ H' vs xs → Q vs H') (f env m)
def VAs (X : Cx) (W : WX) (es : List Expr) (f : Ev → Mu → Out (List Vl)) : Prop := PA X es (tAg (bsOf X) X.mg W f)
theorem vas_nil : VAs X W [] (evA C .nil) := PA.imp pa_nil fun σ H Q q => by
  obtain ⟨O, ρ, env, m, S, h⟩ := q
  rw [evA] at h
  exact h [] H (.refl _ _) S.cell .nil
/-- an argument: its value; a name may be the cell -/
def tAr (B : Bs) (mg : Str → Option Value) (W : WX) (x : Ex) (f : EvF) : TE := fun σ H Q => ∃ O ρ env m, SR B O ρ σ H env m ∧ match isCell env x with
  | true => ∀ v, ArgR B O ρ H v .cell → Q v H
  | false => Pg ⟨B, mg, O, ρ, W⟩ σ H (Vq ⟨B, mg, O, ρ, W⟩ H Q) (f env m)
theorem var_arg {i : Nat} {xx : Str} (k : Cok X c C n W) (h : visB c i xx = true) : PE X (.Name xx pos) (tAr (bsOf X) X.mg W (.var i) (ev C (.var i))) := by
  obtain ⟨h1, h2, h3, h4⟩ := visB_ok k h
  refine ⟨fun pins s σ H Q I q => ?_⟩
  obtain ⟨O, ρ, env, m, S, q⟩ := q
  cases e : isCell env (.var i) with
  | false =>
    rw [e] at q
    exact (ve_var k h).run pins s σ H Q I ⟨O, ρ, env, m, S, q⟩
  | true =>
    rw [e] at q
    refine (pe_var h1 h2 h3 h4).run pins s σ H Q I ?_
    unfold isCell at e
    have e' : env[i]? = some (some .cell) := by
      simp only at e
      split at e
      · rename_i es
        unfold getS at es
        split at es
        · cases es; assumption
        · cases es
      · cases e
    obtain ⟨v, hv, r⟩ := S.slot i _ e'
    exact ⟨v, hv, q v r⟩
theorem ex_arg (hx : ∀ i, x ≠ .var i) (ha : VE X W a (ev C x)) : PE X a (tAr (bsOf X) X.mg W x (ev C x)) := by
  refine PE.imp ha fun σ H Q q => ?_
  obtain ⟨O, ρ, env, m, S, q⟩ := q
  have e : isCell env x = false := by
    cases x with
    | var i => exact absurd rfl (hx i)
    | _ => rfl
  rw [e] at q
  exact ⟨O, ρ, env, m, S, q⟩
theorem vas_cons {es : List Expr} {r : Exs} (hst : (match a with | .Starred .. => false | _ => true) = true) (ha : PE X a (tAr (bsOf X) X.mg W x (ev C x))) (hr : VAs X W es (evA C r)) : VAs X W (a :: es) (evA C (.cons x r)) := by
  refine PA.imp (pa_cons ha hr (star_ok hst)) fun σ H Q q => ?_
  obtain ⟨O, ρ, env, m, S, h⟩ := q
  rw [evA] at h
  refine ⟨O, ρ, env, m, S, ?_⟩
  cases ec : isCell env x with
  | true =>
    rw [ec] at h
    simp only at h
    intro v rv
    refine ⟨O, ρ, env, m, S, h.bind.mono fun ds m2 _ y vs H2 f2 c2 k2 => ?_⟩
    exact y _ H2 f2 c2 (.cons rv k2)
  | false =>
    rw [ec] at h
    simp only at h ⊢
    refine h.bind.mono fun p1 m1 _ x1 v H1 f1 c1 r1 => ?_
    have S1 := S.step f1 c1
    cases e : keepD p1 with
    | none => simp only [e] at x1; exact x1.elim
    | some dd =>
      simp only [e] at x1
      obtain ⟨e1, rp⟩ := RF.keep S.hot r1 (show keepD (p1.1, p1.2) = some dd from e)
      refine ⟨O, ρ, env, m1, S1, ?_⟩
      refine (x1.move f1 fun _ _ z => z).bind.mono fun ds m2 _ y vs H2 f2 c2 k2 => ?_
      rw [e1] at y
      exact y _ H2 (f1.trans f2) c2 (.cons (Rp.go (f2.goes S1.cell.hρ) _ _ rp) k2)
/-- a call of a def -/
theorem ve_call {f : Nat} {xx : Str} {es : List Expr} {r : Exs} (k : Cok X c C n W) (hg : glB c xx = true) (hm : (xx, f, lenX r) ∈ c.G.fns) (hst : (match a with | .Starred .. => false | _ => true) = true) (hpl : ∀ pos, (backTo pos (starEach es X.env)).any (·.1) = false)
    (hes : VAs X W (a :: es) (evA C r)) : VE X W (.Call (.Name xx p2) (a :: es) [] pos) (ev C (.call f r)) := by
  obtain ⟨g1, g2⟩ := glB_ok k hg
  obtain ⟨ad, fd, ps, e1, kp, hb, hps, F⟩ := k.fns _ hm
  refine PE.imp (pe_callS (E := WE W) F k.room g1 e1 kp hb (fun σ => passAt k.takes σ) hes g2 (star_ok hst) (hpl _)) fun σ H Q q => ?_
  obtain ⟨O, ρ, env, m, S, h⟩ := q
  rw [ev] at h
  refine ⟨O, ρ, env, m, S, h.bind.mono fun xs m1 ex x1 vs H1 f1 c1 k1 => ?_⟩
  have S1 := S.step f1 c1
  refine ⟨by rw [k1.length, evA_len _ _ _ _ _ ex], O, ρ, xs, m1, S1.hot, c1, k1, ?_⟩
  cases e : C f xs m1 with
  | ok d m2 =>
    rw [e, Out.bind_ok] at x1
    exact fun v H' f2 c2 r2 => x1 v H' (f1.trans f2) c2 r2
  | ex c fs m2 =>
    rw [e] at x1
    exact fun cls d H' f2 c2 r2 => x1 cls d H' (f1.trans f2) c2 r2
  | bad => rw [e] at x1; exact x1.elim
theorem pe_callS0 {CX : CXT} {kk : Nat} {f : Addr} {fd : FuncData} {ps : List Str} {sp : Sp} {E : L2.St → XK} {x : Str} {p pos : Pos} (F : FnOk X.prog X.w X.K X.mg X.base CX kk f fd ps sp) (hr : Room kk X.A) (hg : Gl X x) (hm : X.mg x = some (.ref f)) (hk : PySem.W.keepIn X.K (.ref f) = true) (hb : Binds X.K fd ps []) (hx : ∀ σ, PassesAt CX X σ (E σ))
    (hdb : (x == ("__debug__" : Str)) = false) : PE X (.Call (.Name x p) [] [] pos) (tCallS sp E tNil) := by
  refine ⟨fun pins s σ H Q I h => ?_⟩
  refine wpAny_Call_Name_kw (ld_glob I hg hm ?_ hdb)
  exact PySem.W.callWith_K0 I.kIn hk (run_fnS (us := []) F hr hb (hx σ) I .nil h)
theorem ve_call0 {f : Nat} {xx : Str} (k : Cok X c C n W) (hg : glB c xx = true) (hm : (xx, f, 0) ∈ c.G.fns) : VE X W (.Call (.Name xx p2) [] [] pos) (ev C (.call f .nil)) := by
  obtain ⟨g1, g2⟩ := glB_ok k hg
  obtain ⟨ad, fd, ps, e1, kp, hb, hps, F⟩ := k.fns _ hm
  refine PE.imp (pe_callS0 (E := WE W) F k.room g1 e1 kp hb (fun σ => passAt k.takes σ) g2) fun σ H Q q => ?_
  obtain ⟨O, ρ, env, m, S, h⟩ := q
  rw [ev, evA, Out.bind_ok] at h
  refine ⟨rfl, O, ρ, [], m, S.hot, S.cell, .nil, ?_⟩
  cases e : C f [] m with
  | ok d m2 =>
    rw [e, Out.bind_ok] at h
    exact fun v H' f2 c2 r2 => h v H' f2 c2 r2
  | ex c fs m2 =>
    rw [e] at h
    exact fun cls d H' f2 c2 r2 => h cls d H' f2 c2 r2
  | bad => rw [e] at h; exact h.elim
end
end Tw
set_option Elab.async false
set_option linter.all false
set_option maxRecDepth 100000
set_option maxHeartbeats 1000000
/-! The library's order of data is ltD; sorts. -/
namespace Tw
open PySem PySem.Spec PyProof.Rows L2
open PySem.W (alike alikeAll dataLt keyToks keyToksAll rowLt dataLt_cons dataLt_int dataLt_tuple AlikeAll AllAlike Sortable dataLe)

theorem intTrees_mem : ∀ {xs : List PyData}, intTrees xs = true → ∀ x ∈ xs, intTree x = true
  | x :: xs, h, y, hy => by
    simp only [intTrees, Bool.and_eq_true] at h
    rcases List.mem_cons.mp hy with e | hy
    · rw [e]; exact h.1
    · exact intTrees_mem h.2 y hy
theorem uni_tree : ∀ (n : Nat) (d : PyData), uni n d = true → intTree d = true
  | 0, d, h => by obtain ⟨i, rfl⟩ := uni_int h; rfl
  | n + 1, d, h => by
    obtain ⟨xs, rfl, hx⟩ := uni_tuple h
    have : ∀ ys : List PyData, (∀ x ∈ ys, intTree x = true) → intTrees ys = true := by
      intro ys
      induction ys with
      | nil => intro _; rfl
      | cons y ys ih => intro h; simp only [intTrees, h y List.mem_cons_self, ih fun x hx => h x (List.mem_cons_of_mem _ hx), Bool.and_self]
    simp only [intTree]
    exact this xs fun x hm => uni_tree n x (hx x hm)
theorem uni_alike : ∀ (n : Nat) (a b : PyData), uni n a = true → uni n b = true → alike a b = true
  | 0, a, b, ha, hb => by
    obtain ⟨i, rfl⟩ := uni_int ha
    obtain ⟨j, rfl⟩ := uni_int hb
    simp [alike]
  | n + 1, a, b, ha, hb => by
    obtain ⟨xs, rfl, hx⟩ := uni_tuple ha
    obtain ⟨ys, rfl, hy⟩ := uni_tuple hb
    simp only [alike]
    have : ∀ us ws : List PyData, (∀ x ∈ us, uni n x = true) → (∀ x ∈ ws, uni n x = true) → alikeAll us ws = true := by
      intro us
      induction us with
      | nil => intro ws _ _; cases ws <;> simp [alikeAll]
      | cons u us ih =>
        intro ws h1 h2
        cases ws with
        | nil => simp [alikeAll]
        | cons v ws =>
          simp only [alikeAll, uni_alike n u v (h1 u List.mem_cons_self) (h2 v List.mem_cons_self), ih ws (fun x hx => h1 x (List.mem_cons_of_mem _ hx)) (fun x hx => h2 x (List.mem_cons_of_mem _ hx)), Bool.and_self]
    exact this xs ys hx hy
mutual
theorem tree_noB : ∀ d : PyData, intTree d = true → noB d = true ∧ noDict d = true
  | .int _, _ => ⟨rfl, rfl⟩
  | .tuple xs, h => by
    simp only [intTree] at h
    obtain ⟨h1, h2⟩ := trees_noB xs h
    exact ⟨by simpa [noB] using h1, by simpa [noDict] using h2⟩
  | .none, h => by simp [intTree] at h
  | .bool _, h => by simp [intTree] at h
  | .str _, h => by simp [intTree] at h
  | .list _, h => by simp [intTree] at h
  | .dict _, h => by simp [intTree] at h
theorem trees_noB : ∀ ds : List PyData, intTrees ds = true → noBs ds = true ∧ noDicts ds = true
  | [], _ => ⟨rfl, rfl⟩
  | x :: xs, h => by
    simp only [intTrees, Bool.and_eq_true] at h
    obtain ⟨h1, h2⟩ := tree_noB x h.1
    obtain ⟨h3, h4⟩ := trees_noB xs h.2
    exact ⟨by simp [noBs, h1, h3], by simp [noDicts, h2, h4]⟩
end
mutual
theorem dataLt_ltD : ∀ a b : PyData, intTree a = true → intTree b = true → alike a b = true → dataLt a b = ltD a b
  | .int i, b, ha, hb, hal => by
    cases b with
    | int j => rw [dataLt_int, ltD]
    | _ => simp [alike] at hal
  | .tuple xs, b, ha, hb, hal => by
    cases b with
    | tuple ys =>
      rw [dataLt_tuple, ltD]
      simp only [intTree] at ha hb
      simp only [alike] at hal
      exact rowLt_ltDs xs ys ha hb hal
    | _ => simp [alike] at hal
  | .none, b, ha, _, _ => by simp [intTree] at ha
  | .bool _, b, ha, _, _ => by simp [intTree] at ha
  | .str _, b, ha, _, _ => by simp [intTree] at ha
  | .list _, b, ha, _, _ => by simp [intTree] at ha
  | .dict _, b, ha, _, _ => by simp [intTree] at ha
theorem rowLt_ltDs : ∀ xs ys : List PyData, intTrees xs = true → intTrees ys = true → alikeAll xs ys = true → PyProof.Rows.lexLt itemOrd (keyToksAll xs) (keyToksAll ys) = ltDs xs ys
  | [], ys, _, _, _ => by
    cases ys with
    | nil => simp only [ltDs, keyToksAll]; simp [PyProof.Rows.lexLt, itemLt]
    | cons y ys =>
      simp only [ltDs, keyToksAll]
      simp [PyProof.Rows.lexLt, itemLt]
  | x :: xs, ys, ha, hb, hal => by
    cases ys with
    | nil =>
      simp only [ltDs, keyToksAll]
      simp [PyProof.Rows.lexLt, itemLt]
    | cons y ys =>
      simp only [intTrees, Bool.and_eq_true] at ha hb
      obtain ⟨a1, a2⟩ := PySem.W.alike_all_cons hal
      rw [dataLt_cons a1, ltDs]
      rw [eqv_beq x y (tree_noB x ha.1).1 (tree_noB y hb.1).1 (tree_noB x ha.1).2]
      rw [rowLt_ltDs xs ys ha.2 hb.2 a2, dataLt_ltD x y ha.1 hb.1 a1]
end
/-! ### sorting -/
theorem ltD_irr : ∀ (d : PyData), intTree d = true → ltD d d = false := fun d h => by
  cases d with
  | int i => simp [ltD]
  | tuple xs =>
    rw [ltD]
    have : ∀ ys : List PyData, ltDs ys ys = false := by
      intro ys
      induction ys with
      | nil => simp [ltDs]
      | cons y ys ih => simp [ltDs, (beqD_iff y y).mpr rfl, ih]
    exact this xs
  | _ => simp [ltD]
/-- the data that may be sorted together -/
def SetOk (S : List PyData) : Prop := (∀ x ∈ S, intTree x = true) ∧ ∀ x ∈ S, ∀ y ∈ S, alike x y = true
theorem SetOk.lt {S : List PyData} (h : SetOk S) {x y : PyData} (hx : x ∈ S) (hy : y ∈ S) : dataLt x y = ltD x y := dataLt_ltD x y (h.1 x hx) (h.1 y hy) (h.2 x hx y hy)
theorem SetOk.sub {S T : List PyData} (h : SetOk S) (k : ∀ x ∈ T, x ∈ S) : SetOk T := ⟨fun x hx => h.1 x (k x hx), fun x hx y hy => h.2 x (k x hx) y (k y hy)⟩
theorem lt_trans' {x y z : PyData} (h1 : dataLt x y = true) (h2 : dataLt y z = true) : dataLt x z = true := lex_trans (O := itemOrd) _ _ _ h1 h2
theorem toks_inj {S : List PyData} (h : SetOk S) {x y : PyData} (hx : x ∈ S) (hy : y ∈ S) (h1 : dataLt x y = false) (h2 : dataLt y x = false) : x = y := by
  have e := lex_total (O := itemOrd) _ _ h1 h2
  by_cases z : beqD x y = true
  · exact (beqD_iff x y).mp z
  · exfalso
    have z' : PyData.eqv x y = false := by
      rw [eqv_beq x y (tree_noB x (h.1 x hx)).1 (tree_noB y (h.1 y hy)).1 (tree_noB x (h.1 x hx)).2]
      simpa using z
    have t := (PySem.W.toks_eqv x y (h.2 x hx y hy)).2 z' [.inl 0] [.inl 1]
    have t2 : PyProof.Rows.lexLt itemOrd (keyToks x) (keyToks y) = false := h1
    rw [t2, e] at t
    rw [PySem.W.lex_pre] at t
    simp [PyProof.Rows.lexLt, itemLt] at t
theorem lt_irr (x : PyData) : dataLt x x = false := (listOrd itemOrd).irrefl (keyToks x)
theorem le_trans' {S : List PyData} (h : SetOk S) {x y z : PyData} (hx : x ∈ S) (hy : y ∈ S) (hz : z ∈ S) (h1 : dataLt y x = false) (h2 : dataLt z y = false) : dataLt z x = false := by
  cases q : dataLt z x with
  | false => rfl
  | true =>
    rcases (listOrd itemOrd).negTrans (keyToks z) (keyToks y) (keyToks x) q with a | a
    · have : dataLt z y = true := a
      rw [h2] at this; cases this
    · have : dataLt y x = true := a
      rw [h1] at this; cases this
theorem insD_perm (x : PyData) : ∀ ys : List PyData, (insD x ys).Perm (x :: ys)
  | [] => .refl _
  | y :: ys => by
    simp only [insD]
    split
    · exact ((insD_perm x ys).cons y).trans (.swap x y ys)
    · exact .refl _
theorem sortD_perm : ∀ ys : List PyData, (sortD ys).Perm ys
  | [] => .refl _
  | y :: ys => (insD_perm y _).trans ((sortD_perm ys).cons y)
theorem sortD_length (ys : List PyData) : (sortD ys).length = ys.length := (sortD_perm ys).length_eq
theorem insD_sorted {S : List PyData} (h : SetOk S) {x : PyData} (hx : x ∈ S) : ∀ {ys : List PyData}, (∀ y ∈ ys, y ∈ S) → ys.Pairwise (fun a b => dataLt b a = false) → (insD x ys).Pairwise (fun a b => dataLt b a = false)
  | [], _, _ => by simp [insD]
  | y :: ys, hS, hp => by
    have hy := hS y List.mem_cons_self
    rw [List.pairwise_cons] at hp
    simp only [insD]
    split
    · rename_i q
      rw [← h.lt hy hx] at q
      rw [List.pairwise_cons]
      refine ⟨fun b hb => ?_, insD_sorted h hx (fun z hz => hS z (List.mem_cons_of_mem _ hz)) hp.2⟩
      rcases List.mem_cons.mp ((insD_perm x ys).mem_iff.mp hb) with e | hb
      · rw [e]
        cases r : dataLt x y with
        | false => rfl
        | true => have := lt_trans' q r; rw [lt_irr] at this; cases this
      · exact hp.1 b hb
    · rename_i q
      rw [← h.lt hy hx] at q
      have q : dataLt y x = false := by simpa using q
      rw [List.pairwise_cons]
      refine ⟨fun b hb => ?_, List.pairwise_cons.mpr hp⟩
      rcases List.mem_cons.mp hb with e | hb
      · rw [e]; exact q
      · exact le_trans' h hx hy (hS b (List.mem_cons_of_mem _ hb)) q (hp.1 b hb)
theorem sortD_sorted : ∀ {ys : List PyData}, SetOk ys → (sortD ys).Pairwise (fun a b => dataLt b a = false)
  | [], _ => .nil
  | y :: ys, h => insD_sorted h List.mem_cons_self (fun z hz => List.mem_cons_of_mem _ ((sortD_perm ys).mem_iff.mp hz)) (sortD_sorted (h.sub fun x hx => List.mem_cons_of_mem _ hx))
theorem sorted_one {S : List PyData} (h : SetOk S) : ∀ {xs ys : List PyData}, (∀ x ∈ xs, x ∈ S) → xs.Perm ys → xs.Pairwise (fun a b => dataLt b a = false) → ys.Pairwise (fun a b => dataLt b a = false) → xs = ys
  | [], ys, _, p, _, _ => by rw [p.nil_eq]
  | x :: xs, [], _, p, _, _ => by have := p.length_eq; simp at this
  | x :: xs, y :: ys, hS, p, h1, h2 => by
    rw [List.pairwise_cons] at h1 h2
    have hx := hS x List.mem_cons_self
    have my : y ∈ x :: xs := p.mem_iff.mpr List.mem_cons_self
    have mx : x ∈ y :: ys := p.mem_iff.mp List.mem_cons_self
    have e : x = y := by
      rcases List.mem_cons.mp my with e | my'
      · exact e.symm
      · rcases List.mem_cons.mp mx with e | mx'
        · exact e
        · exact toks_inj h hx (hS y my) (h2.1 x mx') (h1.1 y my')
    subst e
    rw [sorted_one h (fun z hz => hS z (List.mem_cons_of_mem _ hz)) p.cons_inv h1.2 h2.2]
theorem merge_sortD {ds : List PyData} (h : SetOk ds) : ds.mergeSort (dataLe false fun d => d) = sortD ds := by
  refine sorted_one h (fun x hx => (List.mergeSort_perm ds _).mem_iff.mp hx) ((List.mergeSort_perm ds _).trans (sortD_perm ds).symm) ?_ (sortD_sorted h)
  have t : PySem.W.TotalLe (dataLe false fun d : PyData => d) := PySem.W.sortLe_total _ _ _
  exact (PySem.W.sort_pairwise t ds).imp fun {a b} q => by
    have : (!dataLt b a) = true := q
    simpa using this
end Tw
set_option Elab.async false
set_option linter.all false
set_option maxRecDepth 100000
set_option maxHeartbeats 1000000
/-! The builtins. -/
namespace Tw
open PySem PySem.Spec PyProof.Rows L2
open PySem.W (alike alikeAll dataLt EachIs Sortable AllAlike dataLe)
section
variable {X : Cx} {W : WX} {c : Ck} {C : Calls} {n : Nat} {e a b d : Expr} {pos p2 p3 : Pos} {x y z : Ex}
def HK1 (X : Cx) (f : B1) (r : List V → Hp → VK → Prop) : Prop := ∀ O ρ σ env m H0 H1 v d fd q Q, SR (bsOf X) O ρ σ H1 env m → RF (bsOf X) O ρ H0 H1 v d fd → b1D f d = some q → (∀ w H', Fr ρ H1 H' → Cell (bsOf X) O ρ H' m → RF (bsOf X) O ρ H1 H' w q.1 q.2 → Q w H') → r [v] H1 Q
theorem ve_b1 {f : B1} {r : List V → Hp → VK → Prop} (hp : PE X e (tCB r (tCons (tV (bsOf X) X.mg W (ev C x)) tNil))) (hk : HK1 X f r) : VE X W e (ev C (.b1 f x)) := by
  refine PE.imp hp fun σ H Q q => ?_
  show tV (bsOf X) X.mg W (ev C x) σ H fun v H1 => r [v] H1 Q
  refine tV.one (g := fun p => b1D f p.1) (by simpa only [ev] using q) fun O ρ env m H1 v p q S rr e k => ?_
  rcases rr with rr | rr
  · exact hk O ρ σ env m H1 H1 v p.1 p.2 q Q S rr e k
  · exact hk O ρ σ env m H H1 v p.1 p.2 q Q S rr e k
def noStar (a : Expr) : Bool := match a with
  | .Starred .. => false
  | _ => true
theorem star1 {env : Env} (h : noStar a = true) : starEach [a] env = (false, eval a env) :: starEach [] env := star_ok h
theorem ve_bf {f : B1} {id : String} {nm : Str} {r : List V → Hp → VK → Prop} (k : Cok X c C n W) (hg : glB c nm = true) (hm : nm ∈ bltNames) (hv : bootBuiltins nm = some (.builtin id)) (hst : noStar a = true) (ha : VE X W a (ev C x)) (hc : CallR X (.builtin id) r) (hk : HK1 X f r)
    (hn : nm ≠ "__name__" := by decide) : VE X W (.Call (.Name nm p2) [a] [] pos) (ev C (.b1 f x)) := by
  obtain ⟨g1, g2⟩ := glB_ok k hg
  exact ve_b1 (pe_callB hc g1 (k.blt _ hm) hv (pa_cons ha pa_nil (star1 hst)) hn g2 (star1 hst)) hk
theorem ve_bt {f : B1} {id : String} {nm : Str} {r : List V → Hp → VK → Prop} (k : Cok X c C n W) (hg : glB c nm = true) (hm : nm ∈ bltNames) (hv : bootBuiltins nm = some (.type id)) (hst : noStar a = true) (ha : VE X W a (ev C x)) (hc : CallR X (.type id) r) (hk : HK1 X f r)
    (hn : nm ≠ "__name__" := by decide) : VE X W (.Call (.Name nm p2) [a] [] pos) (ev C (.b1 f x)) := by
  obtain ⟨g1, g2⟩ := glB_ok k hg
  exact ve_b1 (pe_callTy hc g1 (k.blt _ hm) hv (pa_cons ha pa_nil (star1 hst)) hn g2 (star1 hst)) hk

/-! ### len -/
theorem call_len_dic {O : Hot} : CallR X (.builtin "len") (fun xs H Q => ∃ O a es kvs, xs = [.ref a] ∧ (a == sysModules) = false ∧ Rd H a (dicO (bsOf X) a es) ∧ (es.map (·.1)).Nodup ∧ es.length ≤ sizeLine ∧ Ens (bsOf X) O H es kvs ∧ Q (.int kvs.length) H) := by
  intro pins s σ H xs us Q I r h
  obtain ⟨O, a, es, kvs, rfl, sm, hH, nd, z, hk, q⟩ := h
  obtain ⟨u, rfl, rx⟩ := vals1 r
  obtain rfl : u = .ref a := rx
  have hl := ens_length hk
  refine PySem.call_len_dictH sm (inv_dictOf I hH nd hk) (by rw [sizeLine_eq] at z; omega) ?_
  rw [hl]
  exact ⟨.int ((kvs.length : Nat) : Int), H, I.tok _, ⟨_, rfl⟩, q⟩
theorem ve_len (k : Cok X c C n W) (hg : glB c "len" = true) (hst : noStar a = true) (ha : VE X W a (ev C x)) : VE X W (.Call (.Name "len" p2) [a] [] pos) (ev C (.b1 .len x)) := by
  refine ve_bf k hg (by decide) boot_len hst ha (call_len.or (call_len_dic (O := fun _ => False))) fun O ρ σ env m H0 H1 v d fd q Q S r hq kk => ?_
  unfold b1D at hq
  cases d with
  | list xs =>
    cases hq
    obtain ⟨l, vs, rfl, hl, kl⟩ := r.list
    exact .inl ⟨_, xs.length, rfl, .inl ⟨vs, sqL_of hl, kl.length.symm⟩, kk _ _ (.refl _ _) S.cell (Rp.int _)⟩
  | tuple xs =>
    cases hq
    obtain ⟨l, vs, rfl, hl, kl⟩ := r.tuple
    exact .inl ⟨_, xs.length, rfl, .inr ⟨vs, hl, kl.length.symm⟩, kk _ _ (.refl _ _) S.cell (Rp.int _)⟩
  | str w =>
    simp only at hq
    split at hq
    · rename_i hz
      cases hq
      rw [r.str]
      exact .inl ⟨_, w.length, rfl, ⟨sz_ok hz, rfl⟩, kk _ _ (.refl _ _) S.cell (Rp.int _)⟩
    · cases hq
  | dict kvs =>
    cases hq
    obtain ⟨ad, es, rfl, sm, h1, nd, z, he⟩ := r.dict
    exact .inr ⟨O, ad, es, kvs, rfl, sm, h1, nd, z, he, kk _ _ (.refl _ _) S.cell (Rp.int _)⟩
  | _ => cases hq

/-! ### tuple, list, abs, int, str -/
theorem seqOf_cases {d : PyData} {xs : List PyData} (h : seqOf d = some xs) : d = .list xs ∨ d = .tuple xs := by
  cases d <;> simp [seqOf] at h <;> subst h <;> simp
theorem ve_tuple (k : Cok X c C n W) (hg : glB c "tuple" = true) (hst : noStar a = true) (ha : VE X W a (ev C x)) : VE X W (.Call (.Name "tuple" p2) [a] [] pos) (ev C (.b1 .tuple x)) := by
  refine ve_bt k hg (by decide) PyProof.Rows.boot_tuple hst ha call_tuple_of fun O ρ σ env m H0 H1 v d fd q Q S r hq kk => ?_
  obtain ⟨xs, e1, e2⟩ := Option.map_eq_some_iff.mp (show (seqOf d).map (fun xs => (PyData.tuple xs, Fl.c)) = some q from hq)
  subst e2
  rcases seqOf_cases e1 with e | e
  · subst e
    obtain ⟨l, vs, rfl, hl, kl⟩ := r.list
    exact ⟨l, vs, rfl, .inl ⟨sqL_of hl, fun p np => kk _ _ (.upd np) (S.cell.new np) (RF.newT S.cell S.hot np kl)⟩⟩
  · subst e
    obtain ⟨l, vs, rfl, hl, kl⟩ := r.tuple
    exact ⟨l, vs, rfl, .inr ⟨hl, kk _ _ (.refl _ _) S.cell (RF.keepT r)⟩⟩
theorem ve_list (k : Cok X c C n W) (hg : glB c "list" = true) (hst : noStar a = true) (ha : VE X W a (ev C x)) : VE X W (.Call (.Name "list" p2) [a] [] pos) (ev C (.b1 .list x)) := by
  refine ve_bt k hg (by decide) PyProof.Rows.boot_list hst ha call_list_of fun O ρ σ env m H0 H1 v d fd q Q S r hq kk => ?_
  obtain ⟨xs, e1, e2⟩ := Option.map_eq_some_iff.mp (show (seqOf d).map (fun xs => (PyData.list xs, Fl.f)) = some q from hq)
  subst e2
  rcases seqOf_cases e1 with e | e
  · subst e
    obtain ⟨l, vs, rfl, hl, kl⟩ := r.list
    exact ⟨l, vs, rfl, .inl (sqL_of hl), fun p np => kk _ _ (.upd np) (S.cell.new np) (RF.newL S.cell (.refl _ _) np kl)⟩
  · subst e
    obtain ⟨l, vs, rfl, hl, kl⟩ := r.tuple
    exact ⟨l, vs, rfl, .inr hl, fun p np => kk _ _ (.upd np) (S.cell.new np) (RF.newL S.cell (.refl _ _) np kl)⟩
theorem boot_abs : bootBuiltins "abs" = some (.builtin "abs") := by decide +kernel
theorem boot_sorted : bootBuiltins "sorted" = some (.builtin "sorted") := by decide +kernel
theorem ve_abs (k : Cok X c C n W) (hg : glB c "abs" = true) (hst : noStar a = true) (ha : VE X W a (ev C x)) : VE X W (.Call (.Name "abs" p2) [a] [] pos) (ev C (.b1 .abs x)) := by
  refine ve_bf k hg (by decide) boot_abs hst ha call_abs fun O ρ σ env m H0 H1 v d fd q Q S r hq kk => ?_
  unfold b1D at hq
  cases d with
  | int i => cases hq; rw [r.int]; exact ⟨i, rfl, kk _ _ (.refl _ _) S.cell (Rp.int _)⟩
  | _ => cases hq
theorem ve_int1 (k : Cok X c C n W) (hg : glB c "int" = true) (hst : noStar a = true) (ha : VE X W a (ev C x)) : VE X W (.Call (.Name "int" p2) [a] [] pos) (ev C (.b1 .int x)) := by
  refine ve_bt k hg (by decide) PyProof.Rows.boot_int hst ha call_int1 fun O ρ σ env m H0 H1 v d fd q Q S r hq kk => ?_
  unfold b1D at hq
  cases d with
  | int i => cases hq; rw [r.int]; exact .inl ⟨i, rfl, kk _ _ (.refl _ _) S.cell (Rp.int _)⟩
  | bool t => cases hq; rw [r.bl]; exact .inr ⟨t, rfl, kk _ _ (.refl _ _) S.cell (Rp.int _)⟩
  | _ => cases hq
theorem ve_str1 (k : Cok X c C n W) (hg : glB c "str" = true) (hst : noStar a = true) (ha : VE X W a (ev C x)) : VE X W (.Call (.Name "str" p2) [a] [] pos) (ev C (.b1 .str x)) := by
  refine ve_bt k hg (by decide) PyProof.Rows.boot_str hst ha call_str_int fun O ρ σ env m H0 H1 v d fd q Q S r hq kk => ?_
  unfold b1D at hq
  cases d with
  | int i =>
    simp only at hq
    split at hq
    · rename_i hz
      cases hq
      rw [r.int]
      refine ⟨i, rfl, ?_, kk _ _ (.refl _ _) S.cell (Rp.str _)⟩
      have hz := of_decide_eq_true hz
      by_cases h0 : i.natAbs = 0
      · rw [h0]; decide
      · exact Nat.lt_trans ((Nat.log2_lt h0).mpr hz) (by decide)
    · cases hq
  | _ => cases hq

/-! ### sum -/
theorem intsOf_map : ∀ {xs : List PyData} {is : List Int}, intsOf xs = some is → xs = is.map .int
  | [], is, h => by simp [intsOf] at h; subst h; rfl
  | x :: xs, is, h => by
    cases x with
    | int i =>
      simp only [intsOf] at h
      obtain ⟨js, e1, e2⟩ := Option.map_eq_some_iff.mp h
      subst e2
      rw [intsOf_map e1]; rfl
    | _ => simp [intsOf] at h
theorem rps_ints {B : Bs} {O : Hot} {H : Hp} : ∀ {vs : List V} (is : List Int), Rps B O H vs (is.map .int) → vs = is.map V.int
  | _, [], h => by cases h; rfl
  | _, i :: is, h => by
    cases h with
    | cons a b => cases a; rw [rps_ints is b]; rfl
theorem sumI_eq : ∀ is : List Int, sumI is = is.sum
  | [] => rfl
  | i :: is => by simp [sumI, sumI_eq is]
theorem ve_sum (k : Cok X c C n W) (hg : glB c "sum" = true) (hst : noStar a = true) (ha : VE X W a (ev C x)) : VE X W (.Call (.Name "sum" p2) [a] [] pos) (ev C (.b1 .sum x)) := by
  refine ve_bf k hg (by decide) boot_sum hst ha (cr_sum k.calm) fun O ρ σ env m H0 H1 v d fd q Q S r hq kk => ?_
  unfold b1D at hq
  cases d with
  | list xs =>
    simp only at hq
    obtain ⟨is, e1, e2⟩ := Option.map_eq_some_iff.mp hq
    subst e2
    obtain ⟨l, vs, rfl, hl, kl⟩ := r.list
    rw [intsOf_map e1] at kl
    have ev := rps_ints is kl
    subst ev
    exact ⟨l, is, rfl, sqL_of hl, kk _ _ (.refl _ _) S.cell (by rw [sumI_eq]; exact Rp.int _)⟩
  | _ => cases hq
end
end Tw
set_option Elab.async false
set_option linter.all false
set_option maxRecDepth 100000
set_option maxHeartbeats 1000000
/-! sorted, sets, min, max. -/
namespace Tw
open PySem PySem.Spec PyProof.Rows L2
open PySem.W (alike alikeAll dataLt EachIs Sortable AllAlike dataLe)
/-! ### sorted -/
theorem sortable_ok {xs : List PyData} (h : sortable0 xs = true) : SetOk xs ∧ Sortable xs ∧ (∀ x ∈ xs, x.depth ≤ 2) ∧ xs.length ≤ sizeLine ∧ ∀ x ∈ xs, noDict x = true := by
  unfold sortable0 at h
  simp only [Bool.and_eq_true, Bool.or_eq_true, decide_eq_true_eq] at h
  obtain ⟨h, hb⟩ := h
  have hz : xs.length ≤ sizeLine := Nat.le_trans hb big_line
  have key : ∀ n, n ≤ 2 → xs.all (uni n) = true → SetOk xs ∧ Sortable xs ∧ (∀ x ∈ xs, x.depth ≤ 2) ∧ xs.length ≤ sizeLine ∧ ∀ x ∈ xs, noDict x = true := by
    intro n hn ha
    rw [List.all_eq_true] at ha
    refine ⟨⟨fun x hx => uni_tree n x (ha x hx), fun x hx y hy => uni_alike n x y (ha x hx) (ha y hy)⟩, ?_, fun x hx => Nat.le_trans (uni_depth n x (ha x hx)) hn, hz, fun x hx => uni_noDict n x (ha x hx)⟩
    cases n with
    | zero =>
      refine .inr fun d hd => ?_
      obtain ⟨i, rfl⟩ := uni_int (ha d hd)
      exact ⟨by simp, by simp⟩
    | succ n =>
      refine .inl fun d hd => ?_
      have h1 := ha d hd
      cases d with
      | tuple ys =>
        cases ys with
        | nil => simp [uni] at h1
        | cons y ys => exact ⟨y, ys, rfl⟩
      | _ => simp [uni] at h1
  rcases h with (h | h) | h
  · exact key 0 (by omega) h
  · exact key 1 (by omega) h
  · exact key 2 (by omega) h
theorem sortable_cases {xs : List PyData} (h : sortable xs = true) : sortable0 xs = true ∨ xs = [.tuple []] := by
  unfold sortable at h
  rcases Bool.or_eq_true _ _ ▸ h with h | h
  · exact .inl h
  · exact .inr ((beqDs_iff _ _).mp h)
theorem sortable_len {xs : List PyData} (h : sortable xs = true) : xs.length ≤ sizeLine := by
  rcases sortable_cases h with h | rfl
  · exact (sortable_ok h).2.2.2.1
  · exact Nat.le_trans (show 1 ≤ big by decide) big_line
section
variable {X : Cx} {pins : List (Addr × Obj)} {σ : L2.St} {H : Hp} {s : Shared} {O : Hot}
theorem each_of : ∀ {us : List Value} {vs : List V} {ds : List PyData}, Vals vs us → Rps (bsOf X) O H vs ds → EachIs (fun u d => ∃ v, RelV v u ∧ Rp (bsOf X) O H v d) us ds
  | _, _, [], r, k => by cases k; cases r; exact .nil
  | _, _, d :: ds, r, k => by
    cases k with
    | cons a b => cases r with | cons r1 r2 => exact EachIs.cons (R := fun u d => ∃ v, RelV v u ∧ Rp (bsOf X) O H v d) ⟨_, r1, a⟩ (each_of r2 b)
theorem of_each : ∀ {us : List Value} {ds : List PyData}, EachIs (fun u d => ∃ v, RelV v u ∧ Rp (bsOf X) O H v d) us ds → ∃ vs, Vals vs us ∧ Rps (bsOf X) O H vs ds
  | _, _, .nil => ⟨[], .nil, .nil⟩
  | _, _, .cons ⟨v, r, k⟩ t => by
    obtain ⟨vs, h1, h2⟩ := of_each t
    exact ⟨v :: vs, .cons r h1, .cons k h2⟩
theorem each_reads (I : Inv X pins σ H s) : ∀ {us : List Value} {ds : List PyData}, (∀ d ∈ ds, noDict d = true) → EachIs (fun u d => ∃ v, L2.RelV v u ∧ Rp (bsOf X) O H v d) us ds → EachIs (fun u d => ∃ as, Reads s.heap u d as) us ds
  | [], [], _, _ => .nil
  | [], _ :: _, _, h => by cases h
  | _ :: _, [], _, h => by cases h
  | u :: us, d :: ds, hn, h => by
    cases h with
    | cons a t =>
      obtain ⟨v, r, k⟩ := a
      exact EachIs.cons (R := fun u d => ∃ as, Reads s.heap u d as) (Dp.reads I d v _ (Rp.dp d v (hn d List.mem_cons_self) k) r) (each_reads I (fun x hx => hn x (List.mem_cons_of_mem _ hx)) t)
theorem in1_units (A : Around) : A.in1.units = A.units + 1 := rfl
mutual
theorem reads_addrs {h : Heap} {a : Addr} : ∀ (d : PyData) (u : Value) (as : List Addr), intTree d = true → Reads h u d as → as = []
  | .int _, _, _, _, r => by cases r; rfl
  | .tuple xs, _, _, ht, r => by
    cases r with
    | tuple _ _ _ r' => exact readsAll_addrs xs _ _ (by simpa [intTree] using ht) r'
  | .none, _, _, ht, _ => by simp [intTree] at ht
  | .bool _, _, _, ht, _ => by simp [intTree] at ht
  | .str _, _, _, ht, _ => by simp [intTree] at ht
  | .list _, _, _, ht, _ => by simp [intTree] at ht
  | .dict _, _, _, ht, _ => by simp [intTree] at ht
theorem readsAll_addrs {h : Heap} : ∀ (ds : List PyData) (us : List Value) (as : List Addr), intTrees ds = true → ReadsAll h us ds as → as = []
  | [], _, _, _, r => by cases r; rfl
  | d :: ds, _, _, ht, r => by
    simp only [intTrees, Bool.and_eq_true] at ht
    cases r with
    | cons r1 r2 => rw [reads_addrs (a := 0) d _ _ ht.1 r1, readsAll_addrs ds _ _ ht.2 r2]; rfl
end
theorem sorted_from {src : Value} {us : List Value} {ds : List PyData} {Q : VK} (I : Inv X pins σ H s) (hu : X.A.units + 64 < cLine)
    (hcol : ∀ (E : Value → Shared → Prop) (R : List Value → Shared → Prop), (∀ h' tk, (∀ b o, s.heap.get? b = some o → h'.get? b = some o) → R us { s with heap := h', toks := tk }) → wpAny (model X.prog X.w) X.A.in1 (collect src) R E s)
    (e : EachIs (fun u d => ∃ v, RelV v u ∧ Rp (bsOf X) O H v d) us ds) (ok : sortable ds = true)
    (q : ∀ vs p, H p = none → Rps (bsOf X) O H vs (sortD ds) → Q (.ref p) (upd H p (.lst vs))) : wpAny (model X.prog X.w) X.A (call (.builtin "sorted") [src]) (EP X pins σ Q) X.xe s := by
  have hz := sortable_len ok
  refine Calls.call_function_entry kind_sorted plain_sorted entry_sorted (args_sorted1 _) ?_
  unfold Builtin.«sorted»
  refine wpAny_bind (m := checkCount "sorted" 1 1 _) (wpAny_pure ?_)
  refine wpAny_bind (hcol _ _ fun h1 tk1 k1 => ?_)
  have hl := e.length
  refine wpAny_bind (wpAny_newList ?_ (by rw [hl]; exact hz))
  have I1 : Inv X pins σ H { s with heap := h1, toks := tk1 } := I.kept k1
  have hoL : (h1.push (seqObj "list" us.toArray 0)).get? h1.objs.size = some (seqObj "list" us.toArray 0) := Heap.get?_push_size _ rfl
  have I2 : Inv X pins σ H { s with heap := h1.push (seqObj "list" us.toArray 0), toks := tk1 } := I1.kept fun b o q => Heap.get?_push_of_some _ q
  have last : ∀ out : List Value, out.length = ds.length → EachIs (fun u d => ∃ v, RelV v u ∧ Rp (bsOf X) O H v d) out (sortD ds) → EP X pins σ Q (.ref h1.objs.size) { s with heap := sortedHeap (h1.push (seqObj "list" us.toArray 0)) h1.objs.size us out.toArray, toks := tk1 } := fun out ho eo => by
    obtain ⟨vs, rv, kv⟩ := of_each eo
    obtain ⟨c0, hc⟩ := sortedHeap_at (vs := us) (out := out.toArray) hoL
    have kk : ∀ b o, h1.get? b = some o → (sortedHeap (h1.push (seqObj "list" us.toArray 0)) h1.objs.size us out.toArray).get? b = some o := fun b o q1 => by
      have hlt := Heap.lt_size q1
      rw [sortedHeap_old (Nat.ne_of_lt hlt) (by rw [size_push']; exact Nat.lt_succ_of_lt hlt)]
      exact Heap.get?_push_of_some _ q1
    have hn : H h1.objs.size = none := I1.hok.fresh (Nat.le_refl _)
    have I3 : Inv X pins σ (upd H h1.objs.size (.lst vs)) { s with heap := sortedHeap (h1.push (seqObj "list" us.toArray 0)) h1.objs.size us out.toArray, toks := tk1 } :=
      I1.laid (t' := tk1) kk (Nat.le_refl _) (show ObjOk X.prog X.w _ _ _ (.lst vs) from ⟨by rw [rv.length, ho]; exact hz, out, c0, rv, hc⟩)
    exact ⟨.ref h1.objs.size, _, I3, rfl, q vs _ hn kv⟩
  rcases sortable_cases ok with ok0 | rfl
  · obtain ⟨so, sb, hdep, _, hnd⟩ := sortable_ok ok0
    have er : EachIs (fun u d => ∃ as, Reads (h1.push (seqObj "list" us.toArray 0)) u d as ∧ h1.objs.size ∉ as) us ds := by
      have e1 := PySem.W.each_mem (each_reads I2 hnd e)
      refine e1.mono fun u d ⟨⟨as, r⟩, hm⟩ => ⟨as, r, ?_⟩
      rw [reads_addrs (a := 0) d u as (so.1 d hm) r]
      simp
    refine wpAny_bind (wpAny_holding (PySem.W.list_sort_data (s := { s with heap := h1.push (seqObj "list" us.toArray 0), toks := tk1 }) (enc := fun d : PyData => d) hoL e er (by rw [List.map_id']; exact so.2) (by rw [List.map_id']; exact sb) (by exact hz) (fun d hd => ?_) fun out ho eo => ?_))
    · have := hdep d hd
      show X.A.units + 1 + 1 + d.depth < cLine
      omega
    · rw [merge_sortD so] at eo
      exact wpAny_pure ⟨_, rfl, last out ho eo⟩
  · have h2 : us.length = 1 := hl
    refine wpAny_bind (wpAny_holding (wpAny_call_entry slot_list_sort ⟨_, hoL, rfl⟩ entry_list_sort (Srt.list_sort_any (s := { s with heap := h1.push (seqObj "list" us.toArray 0), toks := tk1 }) hoL (by rw [hl]; exact hz) (fun h3 => absurd h3 (by omega)) fun out hp => ⟨_, rfl, ?_⟩) (args_list_sort _)))
    obtain ⟨u, rfl⟩ := List.length_eq_one_iff.mp h2
    obtain rfl : out = [u] := List.perm_singleton.mp hp
    exact wpAny_pure ⟨_, rfl, last [u] rfl e⟩
end
end Tw
set_option Elab.async false
set_option linter.all false
set_option maxRecDepth 100000
set_option maxHeartbeats 3200000
/-! set of a list of ints. -/
namespace Tw
open PySem PySem.Spec PyProof.Rows L2
section
variable {P : Program} {w : World} {A : Around} {E : Value → Shared → Prop} {s : Shared}
theorem call_set_listI {l : Addr} {items : Array Value} (ns : List Int) {Q : Value → Shared → Prop} (hh : A.handled = none) (hl : s.heap.IsList l items) (hit : IntsAre items.toList ns) (hb : ns.length + 1 < scanBound)
    (h : ∀ (h' : Heap) (tk c : Nat), SetR w h' s.heap.objs.size (fun j => decide (j ∈ ns)) c → c ≤ ns.length → (∀ b o, s.heap.get? b = some o → h'.get? b = some o) → Q (.ref s.heap.objs.size) { s with heap := h', toks := tk }) :
    wpAny (model P w) A (call (.type "set") [.ref l]) Q E s := by
  have hisz : items.size = ns.length := by
    have q := IntsAre.length hit
    rwa [Array.length_toList] at q
  obtain ⟨cc, tl, hmro⟩ := F.called_set.mro
  have hmade := F.called_set.made
  have hsub := F.called_set.sub
  refine wpAny_call (codeAny_of_tree ?_)
  show wpAny _ _ (callAny (.type "set") _) _ _ _
  refine wpAny_pure ⟨Code.quiet_builtin _ (by decide +kernel), codeAny_builtin F.entry_type_call ?_⟩
  rw [Around.under_plain (weight_type_call_type "set" [.ref l] []) rfl]
  have h1 := F.called_set.notType
  have h2 := F.called_set.canCreate
  have hct := F.typeCall_set_1 (.ref l)
  repeat (any_goals (first | assumption | wp_step))
  refine codeAny_mono (code_set_led1 (.ref l) (E := E) (Q₁ := fun obj s₁ => obj = .ref s.heap.objs.size ∧ s₁ = { s with heap := s.heap.push { cls := .type "set", dict := none, data := .set #[] 0 (.fresh 0 0 (!w.params.followText "set-order")) } }) ⟨rfl, rfl⟩) fun r s₁ hr => ?_
  cases r with
  | error e => exact hr
  | ok fl =>
    cases fl with
    | ret obj =>
      obtain ⟨rfl, rfl⟩ := hr
      have hS : (s.heap.push { cls := .type "set", dict := none, data := .set #[] 0 (.fresh 0 0 (!w.params.followText "set-order")) }).get? s.heap.objs.size = some { cls := .type "set", dict := none, data := .set #[] 0 (.fresh 0 0 (!w.params.followText "set-order")) } := Heap.get?_push_size _ rfl
      have hT : Shared.TypeIs { s with heap := s.heap.push { cls := .type "set", dict := none, data := .set #[] 0 (.fresh 0 0 (!w.params.followText "set-order")) } } (.ref s.heap.objs.size) "set" := ⟨_, hS, rfl⟩
      have hli := F.called_set.init.lookup
      have hbi := F.called_set.init.bind (.ref s.heap.objs.size)
      repeat (any_goals (first | assumption | wp_step))
      refine codeAny_mono (codeAny_call_builtin (R := wants (fun r s₂ => r = .none ∧ ∃ h' tk c, s₂ = { s with heap := h', toks := tk } ∧ SetR w h' s.heap.objs.size (fun j => decide (j ∈ ns)) c ∧ c ≤ ns.length ∧
          (∀ b o, s.heap.get? b = some o → h'.get? b = some o)) E) F.called_set.init.plain F.entry_set_init (check_set_init_1 hT ?_)) fun r₂ s₂ hr₂ => ?_
      · obtain ⟨ol, hol, hcl, nl, hdl⟩ := hl
        obtain ⟨ocls, odict, odata, oslots⟩ := ol
        simp only at hcl hdl
        subst hcl; subst hdl
        have hol' : (s.heap.push { cls := .type "set", dict := none, data := .set #[] 0 (.fresh 0 0 (!w.params.followText "set-order")) }).get? l = some { cls := .type "list", dict := odict, data := .seq items nl, slots := oslots } := Heap.get?_push_of_some _ hol
        have hsls := F.sub_list_set
        have hslf := F.sub_list_frozenset
        have hne : (Value.type "list" == Value.type "dict") = false := by decide
        have hl1 : (s.heap.push { cls := .type "set", dict := none, data := .set #[] 0 (.fresh 0 0 (!w.params.followText "set-order")) }).IsList l items := ⟨_, hol', rfl, nl, rfl⟩
        unfold Builtin.«set.__init__» noKeywords Builtin.Frozenset.updateFrom
        generalize hPI : pyIter = PI
        wp_walk
        subst hPI
        refine wpAny_pyIter_list hl1 ?_
        refine wpAny_bind (wpAny_runValue ?_)
        have hlS : l < s.heap.objs.size := Heap.lt_size hol
        have hh3 : A.in1.in1.in1.handled = none := by simp [hh]
        have hneI : l ≠ (s.heap.push { cls := .type "set", dict := none, data := .set #[] 0 (.fresh 0 0 (!w.params.followText "set-order")) }).objs.size := by
          rw [Heap.size_push]; exact Nat.ne_of_lt (Nat.lt_succ_of_lt hlS)
        have hSf : s.heap.objs.size ∉ [(s.heap.push { cls := .type "set", dict := none, data := .set #[] 0 (.fresh 0 0 (!w.params.followText "set-order")) }).objs.size, l] := by
          rw [Heap.size_push]; simp only [List.mem_cons, List.not_mem_nil, or_false, not_or]
          exact ⟨Nat.ne_of_lt (Nat.lt_succ_self _), Nat.ne_of_gt hlS⟩
        have hval : ∀ (i : Nat) (v : Value), items[i]? = some v → ∃ k t, ns[i]? = some k ∧ v = .int k t := fun i v hv => by
          have hi : i < ns.length := by rw [← hisz]; exact (Array.getElem?_eq_some_iff.mp hv).1
          obtain ⟨t, e⟩ := PyProof.Rows.IntsAre.int_at hit i v (by rw [Array.getElem?_toList]; exact hv)
          refine ⟨ns[i], t, List.getElem?_eq_getElem hi, ?_⟩
          rw [e, List.getD_eq_getElem?_getD, List.getElem?_eq_getElem hi] <;> rfl
        refine set_update_ints ((Walks.list hh3 _ l hneI items).toS) s.heap.objs.size hSf ns hisz hb hval (items.size - 0) 0 _ (by omega) (Nat.zero_le _)
          ⟨⟨_, Heap.get?_push_size _ rfl, rfl, rfl⟩, (hl1.push _)⟩ ?hS0 ?hR
        case hS0 =>
          exact ⟨0, Nat.le_refl 0, setR_new_at (Heap.get?_push_of_some _ hS)⟩
        case hR =>
          intro s' c' hm hc' hS'
          obtain ⟨h', g2, d', tk', os'⟩ := s'
          have eg : g2 = s.gens := hm.gens
          have ed : d' = s.drawn := hm.drawn
          have eo : os' = s.os := hm.os
          subst eg; subst ed; subst eo
          show wpAny _ _ _ _ _ _
          refine wpAny_pure ?_
          show wpAny _ _ (ret Value.none) _ _ _
          rw [hisz] at hc'
          refine wpAny_pure ⟨rfl, h', tk', c', rfl, hS', hc', fun b o e => ?_⟩
          have hb0 : b < s.heap.objs.size := Heap.lt_size e
          have hb2 : b ≠ (s.heap.push { cls := .type "set", dict := none, data := .set #[] 0 (.fresh 0 0 (!w.params.followText "set-order")) }).objs.size := by rw [Heap.size_push]; exact Nat.ne_of_lt (Nat.lt_succ_of_lt hb0)
          exact hm.heap b o (by simp only [List.mem_cons, List.not_mem_nil, or_false, not_or]; exact ⟨Nat.ne_of_lt hb0, hb2⟩) (Heap.get?_push_of_some _ (Heap.get?_push_of_some _ e))
      · cases r₂ with
        | error e => exact hr₂
        | ok fl₂ =>
          cases fl₂ with
          | ret r =>
            obtain ⟨rfl, h', tk, c', rfl, hS', hc', hk'⟩ := hr₂
            repeat (any_goals (first | assumption | wp_step))
            exact h _ _ _ hS' hc' hk'
          | _ => exact hr₂.elim
    | _ => exact hr.elim
end
end Tw
set_option Elab.async false
set_option linter.all false
set_option maxRecDepth 100000
set_option maxHeartbeats 1000000
/-! sorted, sets, min, max as the evaluator says. -/
namespace Tw
open PySem PySem.Spec PyProof.Rows L2
open PySem.W (alike alikeAll dataLt EachIs Sortable AllAlike dataLe AlikeAll)
section
variable {X : Cx} {W : WX} {c : Ck} {C : Calls} {n : Nat} {e a b d : Expr} {pos p2 p3 : Pos} {x y z : Ex}
/-! ### sorted(xs) -/
def rSrt (X : Cx) : List V → Hp → VK → Prop := fun xs H Q => ∃ O l vs ds, xs = [.ref l] ∧ (SqL X.K H l vs ∨ SqT X.K H l vs) ∧ Rps (bsOf X) O H vs ds ∧ sortable ds = true ∧ ∀ us p, H p = none → Rps (bsOf X) O H us (sortD ds) → Q (.ref p) (upd H p (.lst us))
theorem call_sortedA (hu : X.A.units + 64 < cLine) : CallR X (.builtin "sorted") (rSrt X) := by
  intro pins s σ H xs us Q I r h
  obtain ⟨O, l, vs, ds, rfl, hs, hk, ok, q⟩ := h
  obtain ⟨u, rfl, rx⟩ := vals1 r
  obtain rfl : u = .ref l := rx
  have fin : ∀ (its : List Value), Vals vs its → (∀ (E : Value → Shared → Prop) (R : List Value → Shared → Prop), (∀ h' tk, (∀ b o, s.heap.get? b = some o → h'.get? b = some o) → R its { s with heap := h', toks := tk }) → wpAny (model X.prog X.w) X.A.in1 (collect (.ref l)) R E s) →
      wpAny (model X.prog X.w) X.A (call (.builtin "sorted") [.ref l]) (EP X pins σ Q) X.xe s := fun its rv hcol => sorted_from I hu hcol (each_of rv hk) ok q
  rcases hs with hs | hs
  · obtain ⟨its, rv, ⟨o, m, ho, hc, hd, he⟩, hz⟩ := I.list hs
    exact fin its rv fun E R hR => wpAny_collect_seq l (.inl rfl) ho hc he (fun h' k => by simpa using hR h' s.toks k) (by rw [List.size_toArray, ← rv.length]; exact hz)
  · obtain ⟨its, rv, ⟨o, ho, hc, m, he⟩, hz⟩ := I.tuple hs
    exact fin its rv fun E R hR => wpAny_collect_seq l (.inr rfl) ho hc he (fun h' k => by simpa using hR h' s.toks k) (by rw [List.size_toArray, ← rv.length]; exact hz)
theorem ve_sorted (k : Cok X c C n W) (hg : glB c "sorted" = true) (hst : noStar a = true) (ha : VE X W a (ev C x)) : VE X W (.Call (.Name "sorted" p2) [a] [] pos) (ev C (.b1 .sorted x)) := by
  refine ve_bf k hg (by decide) boot_sorted hst ha (call_sortedA k.hu) fun O ρ σ env m H0 H1 v d fd q Q S r hq kk => ?_
  obtain ⟨xs, e1, e2⟩ := Option.bind_eq_some_iff.mp (show ((seqOf d).bind fun xs => if sortable xs then some (PyData.list (sortD xs), Fl.f) else none) = some q from hq)
  split at e2
  · rename_i ok
    cases e2
    rcases seqOf_cases e1 with e | e
    · subst e
      obtain ⟨l, vs, rfl, hl, kl⟩ := r.list
      exact ⟨O, l, vs, xs, rfl, .inl (sqL_of hl), kl, ok, fun us p np ku => kk _ _ (.upd np) (S.cell.new np) (RF.newL S.cell (.refl _ _) np ku)⟩
    · subst e
      obtain ⟨l, vs, rfl, hl, kl⟩ := r.tuple
      exact ⟨O, l, vs, xs, rfl, .inr hl, kl, ok, fun us p np ku => kk _ _ (.upd np) (S.cell.new np) (RF.newL S.cell (.refl _ _) np ku)⟩
  · cases e2

/-! ### d.keys() -/
def kvO (r d : Addr) : HO := .ext fun h => PySem.W.KdlKeysView h r d
theorem kvO_ok {h : Heap} {r d : Addr} (v : PySem.W.KdlKeysView h r d) {P : Program} {w : World} {H : Hp} : ObjOk P w H h r (kvO r d) := by
  refine ⟨v, ?_, fun h1 h2 x k => ?_⟩
  · obtain ⟨o, ho, _⟩ := v; exact ⟨o, ho⟩
  · obtain ⟨o, ho, x⟩ := x; exact ⟨o, k o ho, x⟩
def tKeys (X : Cx) (te : TE) : TE := fun σ H Q => te σ H fun x H1 => ∃ O d es kvs, x = .ref d ∧ (d == sysModules) = false ∧ Rd H1 d (dicO (bsOf X) d es) ∧ (es.map (·.1)).Nodup ∧ Ens (bsOf X) O H1 es kvs ∧ ∀ r, H1 r = none → Q (.ref r) (upd H1 r (kvO r d))
theorem pe_keys {te : TE} {apos cpos : Pos} (he : PE X e te) (hbase : attributeBase e "keys" X.env (eval e X.env) = eval e X.env) (hline : (apos.endLine == cpos.line) = true) : PE X (.Call (.Attribute e "keys" apos) [] [] cpos) (tKeys X te) := by
  refine ⟨fun pins s σ H Q I h => ?_⟩
  refine wpAny_Call_method (T := "dict") (id := "dict.keys") hbase rfl hline F.plainAttrs_dict F.slot_dict_keys F.type_dict_keys (thn (he.run pins s σ H _ I h) fun u s1 ⟨x, H1, I1, rx, O, d, es, kvs, ex, sm, hH, nd, hk, q⟩ => ?_)
  subst ex
  obtain rfl : u = Value.ref d := rx
  have hm := inv_dictOf I1 hH nd hk
  refine ⟨hm.typeIs, ?_, ?_⟩
  · obtain ⟨o, _, _, ho, hc, _⟩ := hm
    exact fun a ea => by cases ea; exact ⟨o, ho, hc.2.1⟩
  show wpAny _ _ (callWith cpos (.builtin "dict.keys") [.ref d] [] []) _ X.xe s1
  obtain ⟨o, es', ep, ho, hc, hd, _⟩ := id hm
  refine method_meetsIn F.slot_dict_keys F.entry_dict_keys rfl (PySem.evalArgs_none ⟨rfl, hm.typeIs, F.args_dict_keys_1 _, _, PySem.meets_dict_keys_raw d sm, ⟨es', ep, o, ho, hc, hd⟩, ?_⟩)
  have I2 : Inv X pins σ (upd H1 s1.heap.objs.size (kvO s1.heap.objs.size d)) { s1 with heap := s1.heap.push { cls := .type "dict_keys", data := .fields #[.ref d] } } :=
    I1.laid (t' := s1.toks) (fun b o q => Heap.get?_push_of_some _ q) (Nat.le_refl _) (kvO_ok ⟨_, Heap.get?_push_size _ rfl, rfl, rfl⟩)
  exact ⟨.ref s1.heap.objs.size, _, I2, rfl, q _ (I1.hok.fresh (Nat.le_refl _))⟩
theorem ens_keys {B : Bs} {O : Hot} {H : Hp} : ∀ {es : List Ent} {kvs : List (PyData × PyData)}, Ens B O H es kvs → Rps B O H (es.map fun x => V.ref x.2.1) (kvs.map (·.1))
  | [], _, h => by cases h; exact .nil
  | x :: es, _, h => by cases h with | cons dp a r b t => exact .cons a (ens_keys t)
def rSrtK (X : Cx) : List V → Hp → VK → Prop := fun xs H Q => ∃ O r d es kvs, xs = [.ref r] ∧ H r = some (kvO r d) ∧ Rd H d (dicO (bsOf X) d es) ∧ (es.map (·.1)).Nodup ∧ Ens (bsOf X) O H es kvs ∧ sortable (kvs.map (·.1)) = true ∧
  ∀ us p, H p = none → Rps (bsOf X) O H us (sortD (kvs.map (·.1))) → Q (.ref p) (upd H p (.lst us))
theorem vals_refs : ∀ (as : List Addr), Vals (as.map V.ref) (as.map Value.ref)
  | [] => .nil
  | a :: as => .cons rfl (vals_refs as)
theorem call_sortedK (hc : X.calm = true) (hu : X.A.units + 64 < cLine) : CallR X (.builtin "sorted") (rSrtK X) := by
  intro pins s σ H xs us Q I r h
  obtain ⟨O, rr, d, es, kvs, rfl, hr, hH, nd, hk, ok, q⟩ := h
  obtain ⟨u, rfl, rx⟩ := vals1 r
  obtain rfl : u = .ref rr := rx
  obtain ⟨o, es', ep, ho, hx, hd, he, _⟩ := inv_dictOf I hH nd hk
  have hv : PySem.W.KdlKeysView s.heap rr d := (I.hok rr _ hr).1
  have hlen : es'.size = es.length := by have := congrArg List.length he; simpa using this
  have hz := sortable_len ok
  have hel := ens_length hk
  refine sorted_from (us := es.map fun x => Value.ref x.2.1) I hu (fun E R hR => ?_) (each_of ?_ (ens_keys hk)) ok q
  · refine PySem.W.kdu_collect (K := KdlSrc.rawKeys (es := es') (ep := ep)) (I.ok.hd hc) ⟨hv, o, ho, hx, hd⟩ (by rw [List.length_map] at hz; omega) fun h' tk acc k hi => ?_
    have ea : acc.toList = es.map fun x => Value.ref x.2.1 := by
      refine List.ext_getElem? fun i => ?_
      obtain ⟨hsz, hp⟩ := hi
      by_cases hlt : i < es.length
      · have h1 : i < acc.size := by omega
        have h2 : acc[i]? = some acc[i] := Array.getElem?_eq_getElem h1
        obtain ⟨hi', ev⟩ := hp i _ h2
        rw [Array.getElem?_toList, h2, ev, List.getElem?_map, List.getElem?_eq_getElem hlt]
        have h3 : es'[i] = entryOfKey (nestedKind X.prog X.w) es[i] := by
          have h4 : es'.toList[i]? = some es'[i] := by rw [Array.getElem?_toList, Array.getElem?_eq_getElem hi']
          rw [he, List.getElem?_map, List.getElem?_eq_getElem hlt] at h4
          exact (Option.some.inj h4).symm
        rw [h3]; rfl
      · have h1 : ¬ i < acc.size := by omega
        rw [Array.getElem?_toList, Array.getElem?_eq_none (by omega), List.getElem?_eq_none (by rw [List.length_map]; omega)]
    rw [ea]
    exact hR h' tk k
  · have := vals_refs (es.map fun x => x.2.1)
    rw [List.map_map, List.map_map] at this
    exact this
theorem ve_keysSorted {apos cpos : Pos} (k : Cok X c C n W) (hg : glB c "sorted" = true) (hbase : attributeBase a "keys" X.env (eval a X.env) = eval a X.env) (hline : (apos.endLine == cpos.line) = true) (ha : VE X W a (ev C x)) :
    VE X W (.Call (.Name "sorted" p2) [.Call (.Attribute a "keys" apos) [] [] cpos] [] pos) (ev C (.b1 .keys x)) := by
  obtain ⟨g1, g2⟩ := glB_ok k hg
  refine PE.imp (pe_callB (call_sortedK k.calm k.hu) g1 (k.blt _ (by decide)) boot_sorted (pa_cons (pe_keys ha hbase hline) pa_nil (star1 rfl)) (by decide) g2 (star1 rfl)) fun σ H Q q => ?_
  show tV (bsOf X) X.mg W (ev C x) σ H fun v H1 => _
  refine tV.one (g := fun p => b1D .keys p.1) (by simpa only [ev] using q) fun O ρ env m H1 v p q S rr e kk => ?_
  have rr' : ∃ Hz, RF (bsOf X) O ρ Hz H1 v p.1 p.2 := by rcases rr with rr | rr <;> exact ⟨_, rr⟩
  obtain ⟨Hz, r⟩ := rr'
  obtain ⟨dd, fd⟩ := p
  cases dd with
  | dict kvs =>
    simp only [b1D] at e
    split at e
    · rename_i ok
      cases e
      obtain ⟨ad, es, rfl, sm, h1, nd, z, he⟩ := r.dict
      refine ⟨O, ad, es, kvs, rfl, sm, h1, nd, he, fun rv nr => ?_⟩
      have f1 : Fr ρ H1 (upd H1 rv (kvO rv ad)) := .upd nr
      have c1 := S.cell.new (o := kvO rv ad) nr
      have S1 := S.step f1 c1
      refine ⟨O, rv, ad, es, kvs, rfl, upd_same, (goes_upd (O := fun _ => False) nr ad _ id h1).1, nd, Ens.go (S.goes f1) _ _ he, ok, fun us p np ku => ?_⟩
      exact kk _ _ (f1.trans (.upd np)) (c1.new np) (RF.newL c1 f1 np ku)
    · cases e
  | _ => cases e
/-! ### sets of ints -/
def stO (X : Cx) (a : Addr) (ns : List Int) : HO := .ext fun h => ∃ c, SetR X.w h a (fun j => decide (j ∈ ns)) c ∧ c ≤ ns.length
def rSet (X : Cx) : List V → Hp → VK → Prop := fun xs H Q => ∃ l ns, xs = [.ref l] ∧ (SqL X.K H l (ns.map V.int) ∨ SqT X.K H l (ns.map V.int)) ∧ ns.length < 64 ∧ ∀ p, H p = none → Q (.ref p) (upd H p (stO X p ns))
theorem stO_ok {X : Cx} {h : Heap} {a : Addr} {ns : List Int} {c : Nat} {H : Hp} (R : SetR X.w h a (fun j => decide (j ∈ ns)) c) (hc : c ≤ ns.length) : ObjOk X.prog X.w H h a (stO X a ns) := by
  refine ⟨⟨c, R, hc⟩, ?_, fun h1 h2 ⟨c', R', hc'⟩ k => ⟨c', R'.at k, hc'⟩⟩
  obtain ⟨o, _, _, _, ho, _⟩ := R
  exact ⟨o, ho⟩
theorem call_setA (hcalm : X.calm = true) : CallR X (.type "set") (rSet X) := by
  intro pins s σ H xs us Q I r h
  obtain ⟨l, ns, rfl, hs, h64, q⟩ := h
  obtain ⟨u, rfl, rx⟩ := vals1 r
  obtain rfl : u = .ref l := rx
  have fin : ∀ (h' : Heap) (tk c : Nat), SetR X.w h' s.heap.objs.size (fun j => decide (j ∈ ns)) c → c ≤ ns.length → (∀ b o, s.heap.get? b = some o → h'.get? b = some o) → EP X pins σ Q (.ref s.heap.objs.size) { s with heap := h', toks := tk } := fun h' tk c R hc k =>
    ⟨.ref s.heap.objs.size, _, I.laid k (Nat.le_refl _) (stO_ok R hc), rfl, q _ (I.hok.fresh (Nat.le_refl _))⟩
  rcases hs with hs | hs
  · obtain ⟨its, rv, pl, hz⟩ := I.list hs
    exact call_set_listI ns (I.ok.hd hcalm) pl.isList (by simpa using rv.ints) (by unfold scanBound; omega) fin
  · obtain ⟨its, rv, pl, hz⟩ := I.tuple hs
    exact call_set_tupI ns (I.ok.hd hcalm) pl (by simpa using rv.ints) (by unfold scanBound; omega) fin
theorem uni0_ints : ∀ {xs : List PyData}, xs.all (uni 0) = true → ∃ ns : List Int, xs = ns.map .int
  | [], _ => ⟨[], rfl⟩
  | x :: xs, h => by
    simp only [List.all_cons, Bool.and_eq_true] at h
    obtain ⟨i, rfl⟩ := uni_int h.1
    obtain ⟨ns, rfl⟩ := uni0_ints h.2
    exact ⟨i :: ns, rfl⟩
theorem mem_dedup {x : PyData} : ∀ {xs : List PyData}, x ∈ dedup xs ↔ x ∈ xs
  | [] => by simp [dedup]
  | y :: ys => by
    unfold dedup
    split
    · rename_i h
      rw [List.any_eq_true] at h
      obtain ⟨z, hz, e⟩ := h
      rw [beqD_iff] at e
      subst e
      rw [mem_dedup, List.mem_cons]
      have : y ∈ ys := mem_dedup.mp hz
      exact ⟨.inr, fun h => h.elim (fun e => e ▸ this) id⟩
    · rw [List.mem_cons, List.mem_cons, mem_dedup]
theorem dedup_nodup : ∀ xs : List PyData, (dedup xs).Nodup
  | [] => by simp [dedup]
  | y :: ys => by
    unfold dedup
    split
    · exact dedup_nodup ys
    · rename_i h
      refine List.nodup_cons.mpr ⟨fun hm => h ?_, dedup_nodup ys⟩
      rw [List.any_eq_true]
      exact ⟨y, hm, (beqD_iff y y).mpr rfl⟩
theorem int_nodup {ns : List Int} (h : ns.Nodup) : (ns.map PyData.int).Nodup := by
  rw [List.Nodup, List.pairwise_map]
  exact h.imp fun hne e => hne (by injection e)
theorem setR_perm {w : World} {h : Heap} {a : Addr} {ns : List Int} {c : Nat} (R : SetR w h a (fun j => decide (j ∈ ns)) c) : c = (dedup (ns.map .int)).length := by
  obtain ⟨o, es, ep, t, ho, hex, hd, g, nd, hm, hb, hf, hn, hr, hl⟩ := R
  have p : ((es.toList.map L2.keyOf).map PyData.int).Perm (dedup (ns.map .int)) := by
    refine (List.perm_ext_iff_of_nodup (int_nodup nd) (dedup_nodup _)).mpr fun x => ?_
    rw [mem_dedup, List.mem_map, List.mem_map]
    exact ⟨fun ⟨k, hk, e⟩ => ⟨k, by simpa using (hm k).mpr hk, e⟩, fun ⟨k, hk, e⟩ => ⟨k, (hm k).mp (by simpa using hk), e⟩⟩
  have := p.length_eq
  rw [List.length_map, List.length_map, Array.length_toList] at this
  omega
theorem ints_setOk (ns : List Int) : SetOk (ns.map .int) := ⟨fun x hx => by obtain ⟨i, _, rfl⟩ := List.mem_map.mp hx; rfl, fun x hx y hy => by
  obtain ⟨i, _, rfl⟩ := List.mem_map.mp hx
  obtain ⟨j, _, rfl⟩ := List.mem_map.mp hy
  simp [alike]⟩
theorem sorted_ints_eq {ns os : List Int} (hp : os.Pairwise (· < ·)) (hm : ∀ k, k ∈ os ↔ k ∈ ns) : os.map PyData.int = sortD (dedup (ns.map .int)) := by
  have so : SetOk (dedup (ns.map PyData.int)) := (ints_setOk ns).sub fun x hx => mem_dedup.mp hx
  have nd : os.Nodup := hp.imp fun h => Int.ne_of_lt h
  have p : (os.map PyData.int).Perm (dedup (ns.map .int)) := by
    refine (List.perm_ext_iff_of_nodup (int_nodup nd) (dedup_nodup _)).mpr fun x => ?_
    rw [mem_dedup, List.mem_map, List.mem_map]
    exact ⟨fun ⟨k, hk, e⟩ => ⟨k, (hm k).mp hk, e⟩, fun ⟨k, hk, e⟩ => ⟨k, (hm k).mpr hk, e⟩⟩
  refine sorted_one (ints_setOk os) (fun x hx => hx) (p.trans (sortD_perm _).symm) ?_ (sortD_sorted so)
  rw [List.pairwise_map]
  refine hp.imp fun {i j} h => ?_
  rw [PySem.W.dataLt_int]
  exact decide_eq_false (by omega)
def rSrtS (X : Cx) : List V → Hp → VK → Prop := fun xs H Q => ∃ O r ns, xs = [.ref r] ∧ H r = some (stO X r ns) ∧ ns.length < 64 ∧ ∀ us p, H p = none → Rps (bsOf X) O H us (sortD (dedup (ns.map .int))) → Q (.ref p) (upd H p (.lst us))
theorem ints_rps {B : Bs} {O : Hot} {H : Hp} : ∀ is : List Int, Rps B O H (is.map V.int) (is.map .int)
  | [] => .nil
  | i :: is => .cons (.int i) (ints_rps is)
theorem vals_ints : ∀ {us : List Value} {ns : List Int}, IntsAre us ns → Vals (ns.map V.int) us
  | _, _, .nil => .nil
  | _, _, .cons n t h => .cons ⟨t, rfl⟩ (vals_ints h)
theorem call_sortedS' (hc : X.calm = true) : CallR X (.builtin "sorted") (rSrtS X) := by
  intro pins s σ H xs us Q I r h
  obtain ⟨O, rr, ns, rfl, hr, h64, q⟩ := h
  obtain ⟨u, rfl, rx⟩ := vals1 r
  obtain rfl : u = .ref rr := rx
  obtain ⟨c, R, hcn⟩ := (I.hok rr _ hr).1
  refine L2.sorted_set R (I.ok.hd hc) (by omega) fun s' p out cc os k g1 o1 hp hl hi hs hm hn => ?_
  have hlen : (os.map V.int).length ≤ sizeLine := by rw [List.length_map, hn, sizeLine_eq]; omega
  have hnp : H p = none := I.hok.fresh hp
  have J : Inv X pins σ (upd H p (.lst (os.map V.int))) { s with heap := s'.heap, gens := s'.gens, drawn := s'.drawn, toks := s'.toks } :=
    I.call (ch := []) (Un.laid k hp hnp) (I.hok.laid k hp ⟨hlen, out.toList, cc, vals_ints hi, hl⟩) (by rw [g1]; exact I.bare) (fun _ z => nomatch z)
  have e : s' = { s with heap := s'.heap, gens := s'.gens, drawn := s'.drawn, toks := s'.toks } := by
    cases s'
    cases s
    cases o1
    rfl
  rw [e]
  refine ⟨.ref p, _, J, rfl, q _ p hnp ?_⟩
  rw [← sorted_ints_eq hs fun k => by rw [hm k]; simp]
  exact ints_rps os
/-- len of a set -/
def rLenS (X : Cx) : List V → Hp → VK → Prop := fun xs H Q => ∃ r ns, xs = [.ref r] ∧ H r = some (stO X r ns) ∧ ns.length < 64 ∧ Q (.int ((dedup (ns.map .int)).length : Nat)) H
theorem call_lenS' : CallR X (.builtin "len") (rLenS X) := by
  intro pins s σ H xs us Q I r h
  obtain ⟨rr, ns, rfl, hr, h64, q⟩ := h
  obtain ⟨u, rfl, rx⟩ := vals1 r
  obtain rfl : u = .ref rr := rx
  obtain ⟨c, R, hcn⟩ := (I.hok rr _ hr).1
  have hce := setR_perm R
  obtain ⟨o, es, ep, t, ho, hex, hd, g, nd, hm, hb, hf, hn, _, hl⟩ := R
  exact call_len_set ho hex hd hf (by omega) ⟨.int ((dedup (ns.map PyData.int)).length : Nat), H, I.tok _, ⟨_, by rw [← hce, ← hn]⟩, q⟩
theorem setOk_ok {xs : List PyData} (h : setOk xs = true) : ∃ ns : List Int, xs = ns.map .int ∧ ns.length < 64 := by
  unfold setOk at h
  simp only [Bool.and_eq_true, decide_eq_true_eq] at h
  obtain ⟨ns, rfl⟩ := uni0_ints h.1
  exact ⟨ns, rfl, by simpa using h.2⟩
theorem set_part {f : B1} {O : Hot} {ρ : Option Addr} {σ : L2.St} {env : Ev} {m : Mu} {H0 H1 : Hp} {v : V} {d : PyData} {fd : Fl} {xs : List PyData} {Q : VK} (S : SR (bsOf X) O ρ σ H1 env m) (r : RF (bsOf X) O ρ H0 H1 v d fd) (e : seqOf d = some xs) (ok : setOk xs = true)
    (k : ∀ ns p, xs = ns.map .int → ns.length < 64 → H1 p = none → Q (.ref p) (upd H1 p (stO X p ns))) : rSet X [v] H1 Q := by
  obtain ⟨ns, rfl, h64⟩ := setOk_ok ok
  rcases seqOf_cases e with e | e
  · subst e
    obtain ⟨l, vs, rfl, hl, kl⟩ := r.list
    rw [rps_ints ns kl] at hl
    exact ⟨l, ns, rfl, .inl (sqL_of hl), h64, fun p np => k ns p rfl h64 np⟩
  · subst e
    obtain ⟨l, vs, rfl, hl, kl⟩ := r.tuple
    rw [rps_ints ns kl] at hl
    exact ⟨l, ns, rfl, .inr hl, h64, fun p np => k ns p rfl h64 np⟩
theorem ve_sortedSet {p4 : Pos} (k : Cok X c C n W) (hg : glB c "sorted" = true) (hg2 : glB c "set" = true) (hst : noStar a = true) (ha : VE X W a (ev C x)) :
    VE X W (.Call (.Name "sorted" p2) [.Call (.Name "set" p3) [a] [] p4] [] pos) (ev C (.b1 .sortedSet x)) := by
  obtain ⟨g1, g2⟩ := glB_ok k hg
  obtain ⟨g3, g4⟩ := glB_ok k hg2
  refine PE.imp (pe_callB (call_sortedS' k.calm) g1 (k.blt _ (by decide)) boot_sorted (pa_cons (pe_callTy (call_setA k.calm) g3 (k.blt _ (by decide)) PyProof.Rows.boot_set (pa_cons ha pa_nil (star1 hst)) (by decide) g4 (star1 hst)) pa_nil (star1 rfl)) (by decide) g2 (star1 rfl)) fun σ H Q q => ?_
  show tV (bsOf X) X.mg W (ev C x) σ H fun v H1 => _
  refine tV.one (g := fun p => b1D .sortedSet p.1) (by simpa only [ev] using q) fun O ρ env m H1 v p q S rr e kk => ?_
  have rr' : ∃ Hz, RF (bsOf X) O ρ Hz H1 v p.1 p.2 := by rcases rr with rr | rr <;> exact ⟨_, rr⟩
  obtain ⟨Hz, r⟩ := rr'
  obtain ⟨xs, e1, e2⟩ := Option.bind_eq_some_iff.mp (show ((seqOf p.1).bind fun xs => if setOk xs then some (PyData.list (sortD (dedup xs)), Fl.f) else none) = some q from e)
  split at e2
  · rename_i ok
    cases e2
    show rSet X [v] H1 fun x H2 => rSrtS X [x] H2 Q
    refine set_part (f := .sortedSet) S r e1 ok fun ns rv en h64 nr => ?_
    subst en
    have f1 : Fr ρ H1 (upd H1 rv (stO X rv ns)) := .upd nr
    have c1 := S.cell.new (o := stO X rv ns) nr
    exact ⟨O, rv, ns, rfl, upd_same, h64, fun us p np ku => kk _ _ (f1.trans (.upd np)) (c1.new np) (RF.newL c1 f1 np ku)⟩
  · cases e2
theorem ve_lenSet {p4 : Pos} (k : Cok X c C n W) (hg : glB c "len" = true) (hg2 : glB c "set" = true) (hst : noStar a = true) (ha : VE X W a (ev C x)) :
    VE X W (.Call (.Name "len" p2) [.Call (.Name "set" p3) [a] [] p4] [] pos) (ev C (.b1 .lenSet x)) := by
  obtain ⟨g1, g2⟩ := glB_ok k hg
  obtain ⟨g3, g4⟩ := glB_ok k hg2
  refine PE.imp (pe_callB call_lenS' g1 (k.blt _ (by decide)) boot_len (pa_cons (pe_callTy (call_setA k.calm) g3 (k.blt _ (by decide)) PyProof.Rows.boot_set (pa_cons ha pa_nil (star1 hst)) (by decide) g4 (star1 hst)) pa_nil (star1 rfl)) (by decide) g2 (star1 rfl)) fun σ H Q q => ?_
  show tV (bsOf X) X.mg W (ev C x) σ H fun v H1 => _
  refine tV.one (g := fun p => b1D .lenSet p.1) (by simpa only [ev] using q) fun O ρ env m H1 v p q S rr e kk => ?_
  have rr' : ∃ Hz, RF (bsOf X) O ρ Hz H1 v p.1 p.2 := by rcases rr with rr | rr <;> exact ⟨_, rr⟩
  obtain ⟨Hz, r⟩ := rr'
  obtain ⟨xs, e1, e2⟩ := Option.bind_eq_some_iff.mp (show ((seqOf p.1).bind fun xs => if setOk xs then some (PyData.int (dedup xs).length, Fl.c) else none) = some q from e)
  split at e2
  · rename_i ok
    cases e2
    show rSet X [v] H1 fun x H2 => rLenS X [x] H2 Q
    refine set_part (f := .lenSet) S r e1 ok fun ns rv en h64 nr => ?_
    subst en
    have f1 : Fr ρ H1 (upd H1 rv (stO X rv ns)) := .upd nr
    have c1 := S.cell.new (o := stO X rv ns) nr
    exact ⟨rv, ns, rfl, upd_same, h64, kk _ _ f1 c1 (Rp.int _)⟩
  · cases e2

/-! ### min, max -/
theorem cmpAll_ok {xs : List PyData} (h : cmpAll xs = true) : SetOk xs := by
  unfold cmpAll at h
  simp only [Bool.or_eq_true, Bool.and_eq_true] at h
  rcases h with h | ⟨h1, h2⟩
  · obtain ⟨ns, rfl⟩ := uni0_ints h
    exact ints_setOk ns
  · refine ⟨intTrees_mem h1, fun x hx y hy => ?_⟩
    rw [List.all_eq_true] at h2
    exact (List.all_eq_true.mp (h2 x hx)) y hy
theorem minD_eq {S : List PyData} (h : SetOk S) : ∀ {x : PyData} {xs : List PyData}, x ∈ S → (∀ y ∈ xs, y ∈ S) → PySem.W.minD x xs = minL x xs
  | x, [], _, _ => rfl
  | x, y :: ys, hx, hs => by
    have hy := hs y List.mem_cons_self
    show PySem.W.minD (if dataLt y x then y else x) ys = minL (if ltD y x then y else x) ys
    rw [h.lt hy hx]
    exact minD_eq h (by split <;> assumption) fun z hz => hs z (List.mem_cons_of_mem _ hz)
theorem maxD_eq {S : List PyData} (h : SetOk S) : ∀ {x : PyData} {xs : List PyData}, x ∈ S → (∀ y ∈ xs, y ∈ S) → PySem.W.maxD x xs = maxL x xs
  | x, [], _, _ => rfl
  | x, y :: ys, hx, hs => by
    have hy := hs y List.mem_cons_self
    show PySem.W.maxD (if dataLt x y then y else x) ys = maxL (if ltD x y then y else x) ys
    rw [h.lt hx hy]
    exact maxD_eq h (by split <;> assumption) fun z hz => hs z (List.mem_cons_of_mem _ hz)
theorem minL_mem : ∀ (x : PyData) (xs : List PyData), minL x xs ∈ x :: xs
  | x, [] => List.mem_cons_self
  | x, y :: ys => by
    unfold minL
    have := minL_mem (if ltD y x then y else x) ys
    rcases List.mem_cons.mp this with e | e
    · rw [e]; split <;> simp
    · exact List.mem_cons_of_mem _ (List.mem_cons_of_mem _ e)
theorem maxL_mem : ∀ (x : PyData) (xs : List PyData), maxL x xs ∈ x :: xs
  | x, [] => List.mem_cons_self
  | x, y :: ys => by
    unfold maxL
    have := maxL_mem (if ltD x y then y else x) ys
    rcases List.mem_cons.mp this with e | e
    · rw [e]; split <;> simp
    · exact List.mem_cons_of_mem _ (List.mem_cons_of_mem _ e)
mutual
theorem tree_lay : ∀ d : PyData, intTree d = true → d.canLay0 = true
  | .int _, _ => rfl
  | .tuple xs, h => by simp only [intTree] at h; simp only [PyData.canLay0]; exact trees_lay xs h
  | .none, h => by simp [intTree] at h
  | .bool _, h => by simp [intTree] at h
  | .str _, h => by simp [intTree] at h
  | .list _, h => by simp [intTree] at h
  | .dict _, h => by simp [intTree] at h
theorem trees_lay : ∀ ds : List PyData, intTrees ds = true → PyData.canLayAll0 ds = true
  | [], _ => rfl
  | x :: xs, h => by
    simp only [intTrees, Bool.and_eq_true] at h
    simp only [PyData.canLayAll0, tree_lay x h.1, trees_lay xs h.2, Bool.and_self]
end
theorem intTrees_of : ∀ {xs : List PyData}, (∀ x ∈ xs, intTree x = true) → intTrees xs = true
  | [], _ => rfl
  | x :: xs, h => by simp only [intTrees, h x List.mem_cons_self, intTrees_of fun y hy => h y (List.mem_cons_of_mem _ hy), Bool.and_self]
def rBest (X : Cx) (g : PyData → List PyData → PyData) : List V → Hp → VK → Prop := fun xs H Q => ∃ O l vs x ds, xs = [.ref l] ∧ (SqL X.K H l vs ∨ SqT X.K H l vs) ∧ Rps (bsOf X) O H vs (x :: ds) ∧ SetOk (x :: ds) ∧ PyData.depthAll (x :: ds) ≤ 40 ∧ ∀ w, Rp (bsOf X) O H w (g x ds) → Q w H
theorem best_end {pins : List (Addr × Obj)} {σ : L2.St} {H : Hp} {s : Shared} {O : Hot} {its : List Value} {vs : List V} {x b : PyData} {ds : List PyData} {Q : VK} (I : Inv X pins σ H s) (rv : Vals vs its) (hk : Rps (bsOf X) O H vs (x :: ds)) (so : SetOk (x :: ds)) (hb : b ∈ x :: ds)
    (q : ∀ w, Rp (bsOf X) O H w b → Q w H) {i : Nat} {u : Value} {h' : Heap} {tk : Nat} {bs : List Addr} (hu : its.toArray[i]? = some u) (r : Reads h' u b bs) (k : ∀ b o, s.heap.get? b = some o → h'.get? b = some o) : EP X pins σ Q u { s with heap := h', toks := tk } := by
  have hu' : its[i]? = some u := by simpa using hu
  have hi : i < vs.length := by rw [rv.length]; exact (List.getElem?_eq_some_iff.mp hu').1
  obtain ⟨v, hv⟩ : ∃ v, vs[i]? = some v := ⟨_, List.getElem?_eq_getElem hi⟩
  obtain ⟨u', e1, ru⟩ := rv.get hv
  rw [hu'] at e1
  cases e1
  obtain ⟨d, hd, hp⟩ := hk.getV hv
  have hdm := List.mem_of_getElem? hd
  have I1 : Inv X pins σ H { s with heap := h', toks := tk } := I.kept k
  obtain ⟨as, r2⟩ := Dp.reads I1 d v u (Rp.dp d v ((tree_noB d (so.1 d hdm)).2) hp) ru
  have e : d = b := by
    rw [← SeqAt.readOf_eq (tree_lay d (so.1 d hdm)) r2, ← SeqAt.readOf_eq (tree_lay b (so.1 b hb)) r]
  subst e
  exact ⟨v, H, I1, ru, q v hp⟩
theorem alike_ok {S : List PyData} (h : SetOk S) : AlikeAll S := ⟨fun x hx y hy => h.2 x hx y hy, fun x hx e => by have := h.1 x hx; rw [e] at this; simp [intTree] at this⟩
theorem best_args {pins : List (Addr × Obj)} {σ : L2.St} {H : Hp} {s : Shared} {O : Hot} {its : List Value} {vs : List V} {ds : List PyData} (I : Inv X pins σ H s) (rv : Vals vs its) (hk : Rps (bsOf X) O H vs ds) (so : SetOk ds) : ∃ as, ReadsAll s.heap its ds as :=
  Dp.readsAll I ds vs its (Rps.dp ds vs (trees_noB ds (intTrees_of so.1)).2 hk) rv
theorem call_minA (hc : X.calm = true) (hu : X.A.units + 64 < cLine) : CallR X (.builtin "min") (rBest X minL) := by
  intro pins s σ H xs us Q I r h
  obtain ⟨O, l, vs, x, ds, rfl, hs, hk, so, hd, q⟩ := h
  obtain ⟨u, rfl, rx⟩ := vals1 r
  obtain rfl : u = .ref l := rx
  have em := minD_eq so (x := x) (xs := ds) List.mem_cons_self fun y hy => List.mem_cons_of_mem _ hy
  have hm := minL_mem x ds
  rcases hs with hs | hs
  · obtain ⟨its, rv, pl, hz⟩ := I.list hs
    obtain ⟨as, hr⟩ := best_args I rv hk so
    exact PySem.W.min_list_data (I.ok.hd hc) pl.isList (by simpa using hr) (alike_ok so) (by omega) fun i v h' tk bs hv r k => best_end I rv hk so hm q hv (by rw [← em]; exact r) k
  · obtain ⟨its, rv, pl, hz⟩ := I.tuple hs
    obtain ⟨as, hr⟩ := best_args I rv hk so
    exact PySem.W.min_tuple_data (I.ok.hd hc) pl (by simpa using hr) (alike_ok so) (by omega) fun i v h' tk bs hv r k => best_end I rv hk so hm q hv (by rw [← em]; exact r) k
theorem call_maxA (hc : X.calm = true) (hu : X.A.units + 64 < cLine) : CallR X (.builtin "max") (rBest X maxL) := by
  intro pins s σ H xs us Q I r h
  obtain ⟨O, l, vs, x, ds, rfl, hs, hk, so, hd, q⟩ := h
  obtain ⟨u, rfl, rx⟩ := vals1 r
  obtain rfl : u = .ref l := rx
  have em := maxD_eq so (x := x) (xs := ds) List.mem_cons_self fun y hy => List.mem_cons_of_mem _ hy
  have hm := maxL_mem x ds
  rcases hs with hs | hs
  · obtain ⟨its, rv, pl, hz⟩ := I.list hs
    obtain ⟨as, hr⟩ := best_args I rv hk so
    exact PySem.W.max_list_data (I.ok.hd hc) pl.isList (by simpa using hr) (alike_ok so) (by omega) fun i v h' tk bs hv r k => best_end I rv hk so hm q hv (by rw [← em]; exact r) k
  · obtain ⟨its, rv, pl, hz⟩ := I.tuple hs
    obtain ⟨as, hr⟩ := best_args I rv hk so
    exact PySem.W.max_tuple_data (I.ok.hd hc) pl (by simpa using hr) (alike_ok so) (by omega) fun i v h' tk bs hv r k => best_end I rv hk so hm q hv (by rw [← em]; exact r) k
theorem hk_best {f : B1} {g : PyData → List PyData → PyData} (hf : ∀ d, b1D f d = (seqOf d).bind fun xs => match xs with
    | [] => none
    | x :: r => if cmpAll (x :: r) && decide (PyData.depthAll (x :: r) ≤ 40) then some (g x r, .c) else none) : HK1 X f (rBest X g) := fun O ρ σ env m H0 H1 v d fd q Q S r hq kk => by
  rw [hf] at hq
  obtain ⟨xs, e1, e2⟩ := Option.bind_eq_some_iff.mp hq
  cases xs with
  | nil => cases e2
  | cons x ds =>
    simp only at e2
    split at e2
    · rename_i ok
      cases e2
      simp only [Bool.and_eq_true, decide_eq_true_eq] at ok
      have so := cmpAll_ok ok.1
      rcases seqOf_cases e1 with e | e
      · subst e
        obtain ⟨l, vs, rfl, hl, kl⟩ := r.list
        exact ⟨O, l, vs, x, ds, rfl, .inl (sqL_of hl), kl, so, ok.2, fun w hw => kk _ _ (.refl _ _) S.cell hw⟩
      · subst e
        obtain ⟨l, vs, rfl, hl, kl⟩ := r.tuple
        exact ⟨O, l, vs, x, ds, rfl, .inr hl, kl, so, ok.2, fun w hw => kk _ _ (.refl _ _) S.cell hw⟩
    · cases e2
theorem ve_min (k : Cok X c C n W) (hg : glB c "min" = true) (hst : noStar a = true) (ha : VE X W a (ev C x)) : VE X W (.Call (.Name "min" p2) [a] [] pos) (ev C (.b1 .min x)) :=
  ve_bf k hg (by decide) boot_min hst ha (call_minA k.calm k.hu) (hk_best fun d => rfl)
theorem ve_max (k : Cok X c C n W) (hg : glB c "max" = true) (hst : noStar a = true) (ha : VE X W a (ev C x)) : VE X W (.Call (.Name "max" p2) [a] [] pos) (ev C (.b1 .max x)) :=
  ve_bf k hg (by decide) boot_max hst ha (call_maxA k.calm k.hu) (hk_best fun d => rfl)
end
end Tw
set_option Elab.async false
set_option linter.all false
set_option maxRecDepth 100000
set_option maxHeartbeats 1000000
/-! isinstance, index, get, empty dicts, list(range). -/
namespace Tw
open PySem PySem.Spec PyProof.Rows L2
section
variable {X : Cx} {W : WX} {c : Ck} {C : Calls} {n : Nat} {e a b d : Expr} {pos p2 p3 : Pos} {x y z : Ex}
/-! ### isinstance -/
def tyN : PyData → String
  | .none => "NoneType"
  | .bool _ => "bool"
  | .int _ => "int"
  | .str _ => "str"
  | .list _ => "list"
  | .tuple _ => "tuple"
  | .dict _ => "dict"
theorem tyX_of {B : Bs} {O : Hot} {ρ : Option Addr} {H0 H : Hp} {v : V} {d : PyData} {fl : Fl} (r : RF B O ρ H0 H v d fl) (nd : isDicD d = false) : TyX B.K H v (.type (tyN d)) := by
  cases d with
  | none =>
    rcases r.bw with r | ⟨a, _, r⟩
    · cases r; exact .base .non
    · cases r
  | bool b => rw [r.bl]; exact .base (.bl b)
  | int i => rw [r.int]; exact .base (.int i)
  | str x => rw [r.str]; exact .base (.str x)
  | list xs =>
    obtain ⟨a, vs, rfl, h, _⟩ := r.list
    rcases h with h | ⟨o, h⟩
    · exact .base (.lst h)
    · exact .base (.frz h)
  | tuple xs =>
    obtain ⟨a, vs, rfl, h, _⟩ := r.tuple
    rcases h with (h | ⟨o, h⟩) | ⟨o, its, n, h, hc, _⟩
    · exact .base (.tup h)
    · exact .fTuple h
    · exact .kTuple h hc
  | dict kvs => simp [isDicD] at nd
def isTy (T : String) (d : PyData) : Option Bool := if isDicD d then none else some (tyN d == T || (T == "int" && tyN d == "bool"))
theorem kitB_all : ∀ T ∈ ["int", "bool", "tuple", "str", "list"], ∀ t ∈ ["NoneType", "bool", "int", "str", "list", "tuple"], kitB t T = some (t == T || (T == "int" && t == "bool")) := by decide +kernel
theorem tyN_mem : ∀ d : PyData, isDicD d = false → tyN d ∈ ["NoneType", "bool", "int", "str", "list", "tuple"] := fun d nd => by cases d <;> first | (simp [isDicD] at nd; done) | simp [tyN]
theorem kitB_ty (T : String) (hT : T = "int" ∨ T = "bool" ∨ T = "tuple" ∨ T = "str" ∨ T = "list") (d : PyData) (nd : isDicD d = false) : kitB (tyN d) T = some (tyN d == T || (T == "int" && tyN d == "bool")) :=
  kitB_all T (by rcases hT with rfl | rfl | rfl | rfl | rfl <;> simp) _ (tyN_mem d nd)
theorem isi_b1 {f : B1} {T : String} (hf : ∀ d, b1D f d = (isTy T d).map fun b => (.bool b, .c)) {d : PyData} {q : PyData × Fl} (h : b1D f d = some q) : isDicD d = false ∧ q = (.bool (tyN d == T || (T == "int" && tyN d == "bool")), .c) := by
  rw [hf] at h
  unfold isTy at h
  split at h
  · cases h
  · rename_i nd
    cases h
    exact ⟨by simpa using nd, rfl⟩
theorem boot_of_ty {T : String} (hT : T = "int" ∨ T = "bool" ∨ T = "tuple" ∨ T = "str" ∨ T = "list") : bootBuiltins (Str.ofString T) = some (.type T) := by
  rcases hT with rfl | rfl | rfl | rfl | rfl <;> decide +kernel
theorem ve_isi {f : B1} {T : String} (hf : ∀ d, b1D f d = (isTy T d).map fun b => (.bool b, .c)) (hT : T = "int" ∨ T = "bool" ∨ T = "tuple" ∨ T = "str" ∨ T = "list") (k : Cok X c C n W) (hg : glB c "isinstance" = true) (hg2 : glB c (Str.ofString T) = true) (hst : noStar a = true) (ha : VE X W a (ev C x)) :
    VE X W (.Call (.Name "isinstance" p2) [a, .Name (Str.ofString T) p3] [] pos) (ev C (.b1 f x)) := by
  obtain ⟨g1, g2⟩ := glB_ok k hg
  obtain ⟨g3, g4⟩ := glB_ok k hg2
  have hm : Str.ofString T ∈ bltNames := by rcases hT with rfl | rfl | rfl | rfl | rfl <;> decide
  have hn : Str.ofString T ≠ "__name__" := by rcases hT with rfl | rfl | rfl | rfl | rfl <;> decide
  refine PE.imp (pe_callB call_isi g1 (k.blt _ (by decide)) PyProof.Rows.boot_isinstance (pa_cons ha (pa_cons (pe_bltn (v := .ty T) g3 (k.blt _ hm) (boot_of_ty hT) rfl hn g4) pa_nil (star1 rfl)) (star_ok hst)) (by decide) g2 (star_ok hst) rfl) fun σ H Q q => ?_
  show tV (bsOf X) X.mg W (ev C x) σ H fun v H1 => rIsi X.K [v, .ty T] H1 Q
  refine tV.one (g := fun p => b1D f p.1) (by simpa only [ev] using q) fun O ρ env m H1 v p q S rr e kk => ?_
  have rr' : ∃ Hz, RF (bsOf X) O ρ Hz H1 v p.1 p.2 := by rcases rr with rr | rr <;> exact ⟨_, rr⟩
  obtain ⟨Hz, r⟩ := rr'
  obtain ⟨nd, rfl⟩ := isi_b1 hf e
  exact ⟨v, .ty T, .type (tyN p.1), .type T, _, rfl, .ty T, tyX_of r nd, kit_ty (kitB_ty T hT _ nd), kk _ _ (.refl _ _) S.cell (Rp.bl _)⟩
theorem hf_int : ∀ d, b1D .isInt d = (isTy "int" d).map fun b => (.bool b, .c) := fun d => by cases d <;> rfl
theorem hf_bool : ∀ d, b1D .isBool d = (isTy "bool" d).map fun b => (.bool b, .c) := fun d => by cases d <;> rfl
theorem hf_tuple : ∀ d, b1D .isTuple d = (isTy "tuple" d).map fun b => (.bool b, .c) := fun d => by cases d <;> rfl
theorem hf_str : ∀ d, b1D .isStr d = (isTy "str" d).map fun b => (.bool b, .c) := fun d => by cases d <;> rfl
theorem hf_list : ∀ d, b1D .isList d = (isTy "list" d).map fun b => (.bool b, .c) := fun d => by cases d <;> rfl
theorem kit_tl (d : PyData) (nd : isDicD d = false) {K : PySem.W.Frag} : PySem.W.kitAny K (.type (tyN d)) [.type "tuple", .type "list"] = some (tyN d == "tuple" || tyN d == "list") := by
  refine kitAny_cons (kit_ty (kitB_ty "tuple" (by simp) d nd)) (fun h => ?_) (fun h => ?_)
  · refine kitAny_cons (kit_ty (kitB_ty "list" (by simp) d nd)) (fun h2 => ?_) (fun h2 => ?_)
    · rw [kitAny_nil]
      cases d <;> simp [tyN] at h h2 ⊢
    · cases d <;> simp [tyN] at h h2 ⊢
  · cases d <;> simp [tyN] at h ⊢
theorem ve_isiTL {kk0 : Nat} {p4 p5 : Pos} (k : Cok X c C n W) (hg : glB c "isinstance" = true) (hg2 : glB c "tuple" = true) (hg3 : glB c "list" = true) (hst : noStar a = true) (ha : VE X W a (ev C x)) :
    VE X W (.Call (.Name "isinstance" p2) [a, .Tuple [.Name "tuple" p3, .Name "list" p4] kk0 p5] [] pos) (ev C (.b1 .isTupleList x)) := by
  obtain ⟨g1, g2⟩ := glB_ok k hg
  obtain ⟨g3, g4⟩ := glB_ok k hg2
  obtain ⟨g5, g6⟩ := glB_ok k hg3
  refine PE.imp (pe_callB call_isiT g1 (k.blt _ (by decide)) PyProof.Rows.boot_isinstance (pa_cons ha (pa_cons (pe_tup (pa_cons (pe_bltn (v := .ty "tuple") g3 (k.blt _ (by decide)) PyProof.Rows.boot_tuple rfl (by decide) g4) (pa_cons (pe_bltn (v := .ty "list") g5 (k.blt _ (by decide)) PyProof.Rows.boot_list rfl (by decide) g6) pa_nil (star1 rfl)) (star_ok rfl))) pa_nil (star1 rfl)) (star_ok hst)) (by decide) g2 (star_ok hst) rfl) fun σ H Q q => ?_
  show tV (bsOf X) X.mg W (ev C x) σ H fun v H1 => _
  refine tV.one (g := fun p => b1D .isTupleList p.1) (by simpa only [ev] using q) fun O ρ env m H1 v p q S rr e kk => ?_
  have rr' : ∃ Hz, RF (bsOf X) O ρ Hz H1 v p.1 p.2 := by rcases rr with rr | rr <;> exact ⟨_, rr⟩
  obtain ⟨Hz, r⟩ := rr'
  have e1 : isDicD p.1 = false ∧ q = (.bool (tyN p.1 == "tuple" || tyN p.1 == "list"), .c) := by
    obtain ⟨dd, fd⟩ := p
    cases dd <;> simp [b1D] at e <;> subst e <;> exact ⟨rfl, rfl⟩
  obtain ⟨nd, rfl⟩ := e1
  refine ⟨by rw [sizeLine_eq]; decide, fun tp nt => ?_⟩
  have f1 : Fr ρ H1 (upd H1 tp (.tup [.ty "tuple", .ty "list"])) := .upd nt
  have c1 := S.cell.new (o := .tup [.ty "tuple", .ty "list"]) nt
  exact ⟨v, tp, [.ty "tuple", .ty "list"], .type (tyN p.1), [.type "tuple", .type "list"], _, rfl, upd_same, .cons (.ty _) (.cons (.ty _) .nil), tyX_of (r.go S.cell.hρ f1) nd, kit_tl _ nd, kk _ _ f1 c1 (Rp.bl _)⟩

end
end Tw
set_option Elab.async false
set_option linter.all false
set_option maxRecDepth 100000
set_option maxHeartbeats 1000000
/-! index, get, empty dicts, list(range). -/
namespace Tw
open PySem PySem.Spec PyProof.Rows L2
section
variable {X : Cx} {W : WX} {c : Ck} {C : Calls} {n : Nat} {e a b d : Expr} {pos p2 p3 : Pos} {x y z : Ex}
/-! ### xs.index(y) -/
theorem findD_ok {b : PyData} : ∀ {xs : List PyData} {j : Nat}, findD b xs = some j → xs[j]? = some b ∧ ∀ (m : Nat) (z : PyData), m < j → xs[m]? = some z → beqD z b = false
  | [], j, h => by simp [findD] at h
  | x :: xs, j, h => by
    unfold findD at h
    split at h
    · rename_i e
      cases h
      rw [beqD_iff] at e
      subst e
      exact ⟨rfl, fun m z hm _ => by omega⟩
    · rename_i e
      obtain ⟨i, e1, e2⟩ := Option.map_eq_some_iff.mp h
      subst e2
      obtain ⟨h1, h2⟩ := findD_ok e1
      refine ⟨by simpa using h1, fun m z hm hz => ?_⟩
      cases m with
      | zero => simp at hz; subst hz; simpa using e
      | succ m => exact h2 m z (by omega) (by simpa using hz)
theorem noBs_mem : ∀ {xs : List PyData}, noBs xs = true → ∀ x ∈ xs, noB x = true
  | x :: xs, h, y, hy => by
    simp only [noBs, Bool.and_eq_true] at h
    rcases List.mem_cons.mp hy with e | hy
    · rw [e]; exact h.1
    · exact noBs_mem h.2 y hy
theorem noDicts_mem : ∀ {xs : List PyData}, noDicts xs = true → ∀ x ∈ xs, noDict x = true
  | x :: xs, h, y, hy => by
    simp only [noDicts, Bool.and_eq_true] at h
    rcases List.mem_cons.mp hy with e | hy
    · rw [e]; exact h.1
    · exact noDicts_mem h.2 y hy
theorem isListD_ok {d : PyData} (h : isListD d = true) : ∃ xs, d = .list xs := by
  cases d <;> simp [isListD] at h
  exact ⟨_, rfl⟩
theorem isDicD_ok {d : PyData} (h : isDicD d = true) : ∃ xs, d = .dict xs := by
  cases d <;> simp [isDicD] at h
  exact ⟨_, rfl⟩
theorem tyV_list {K : PySem.W.Frag} {H : Hp} {a : Addr} {xs : List V} (h : SqL K H a xs) : tyV K "list" (.ref a) H := .inl ⟨rfl, xs, h⟩
theorem ve_index {apos : Pos} (k : Cok X c C n W) (hbase : attributeBase a "index" X.env (eval a X.env) = eval a X.env) (hline : (apos.endLine == pos.line) = true) (hst : noStar b = true)
    (hfew : ((backTo pos (starEach [b] X.env)).all (fun x => !x.1) && (backToKw pos (keywordEach [] X.env)).all (fun x => x.1.isSome) && decide (([b] : List Expr).length + ([] : List Keyword).length + (if ([] : List Keyword).isEmpty then 0 else 1) < 30)) = true)
    (ha : VE X W a (ev C x)) (hb : VE X W b (ev C y)) : VE X W (.Call (.Attribute a "index" apos) [b] [] pos) (ev C (.b2 .index x y)) := by
  refine PE.imp (pe_bm PySem.F.plainAttrs_list PySem.F.slot_list_index PySem.F.type_list_index (mt_indexD k.hu65) ha (pa_cons hb pa_nil (star1 hst)) hbase hfew hline (star1 hst) rfl) fun σ H Q q => ?_
  obtain ⟨O, ρ, env, m, S, h⟩ := q
  rw [ev] at h
  refine tV.part S h.bind fun p1 m1 v H1 S1 f1 r1 x1 => ?_
  obtain ⟨d1, fl1⟩ := p1
  cases hb2 : b2ok .index d1 with
  | false => simp only [hb2] at x1; exact x1.elim
  | true =>
    simp only [hb2] at x1
    obtain ⟨xs, rfl⟩ := isListD_ok hb2
    obtain ⟨l, vs, rfl, hl, kl⟩ := r1.list
    refine ⟨tyV_list (sqL_of hl), ?_⟩
    show tV (bsOf X) X.mg W (ev C y) σ H1 fun u H2 => rIndexD X.K (.ref l) [u] H2 Q
    refine tV.part S1 (x1.move f1 fun _ _ z => z).bind fun p2 m2 u H2 S2 f2 r2 x2 => ?_
    cases e : b2D .index (.list xs) p2.1 with
    | none => simp only [e] at x2; exact x2.elim
    | some qq =>
      simp only [e] at x2
      unfold b2D at e
      simp only at e
      split at e
      · rename_i hz
        unfold plainD at hz
        simp only [Bool.and_eq_true] at hz
        obtain ⟨⟨h1, h2⟩, h3, h4⟩ := hz
        obtain ⟨j, e1, e2⟩ := Option.map_eq_some_iff.mp e
        subst e2
        obtain ⟨g1, g2⟩ := findD_ok e1
        have r1' : RF (bsOf X) O ρ H H2 (.ref l) (.list xs) fl1 := RF.go S1.cell.hρ f2 r1
        have n2 := noDict_shaped h2
        have n4 := noDict_shaped h4
        have nb : noBs xs = true := by simpa [noB] using h3
        have nd : noDicts xs = true := by simpa [noDict] using n4
        refine ⟨l, u, p2.1, xs, j, p2.1, rfl, rfl, RF.dp r1' n4, RF.dp r2 n2, h4, h2, g1, ?_, fun m z hm hz => ?_, ?_⟩
        · rw [eqv_beq _ _ h1 h1 n2, beqD_iff]
        · have hm' := List.mem_of_getElem? hz
          rw [eqv_beq _ _ (noBs_mem nb z hm') h1 (noDicts_mem nd z hm')]
          exact g2 m z hm hz
        · exact x2 _ H2 (f1.trans f2) S2.cell (Rp.int _)
      · cases e

/-! ### {} and d.get(k, x) -/
theorem ve_emptyDict : VE X W (.Dict [] [] pos) (ev C .emptyDict) := by
  refine ⟨fun pins s σ H Q I h => ?_⟩
  obtain ⟨O, ρ, env, m, S, h⟩ := h
  rw [ev] at h
  refine wpAny_Dict_empty ?_
  have np : H s.heap.objs.size = none := I.hok.fresh (Nat.le_refl _)
  have sm : (s.heap.objs.size == sysModules) = false := beq_eq_false_iff_ne.mpr (Ne.symm (Nat.ne_of_lt I.big))
  have ok : ObjOk X.prog X.w (upd H s.heap.objs.size (dicO (bsOf X) s.heap.objs.size [])) (s.heap.push { cls := .type "dict", data := .dict #[] }) s.heap.objs.size (dicO (bsOf X) s.heap.objs.size []) :=
    dicO_ok (K := X.K) ⟨_, #[], 0, Heap.get?_push_size _ rfl, ⟨rfl, rfl, rfl⟩, rfl, rfl, (fun x hx => by cases hx), List.nodup_nil⟩
  have I2 := I.laid (a := s.heap.objs.size) (t' := s.toks) (fun _ _ q => Heap.get?_push_of_some _ q) (Nat.le_refl _) ok
  refine ⟨.ref s.heap.objs.size, _, I2, rfl, ?_⟩
  refine h _ _ (.upd np) (S.cell.new np) ⟨s.heap.objs.size, rfl, S.cell.ne np, np, .dic sm upd_same List.nodup_nil (Nat.zero_le _) .nil⟩
def tGet (X : Cx) (td ty tx : TE) : TE := fun σ H Q => td σ H fun x H1 => ∃ O a es kvs, x = .ref a ∧ (a == sysModules) = false ∧ Rd H1 a (dicO (bsOf X) a es) ∧ (es.map (·.1)).Nodup ∧ Ens (bsOf X) O H1 es kvs ∧
  ty σ H1 fun y H2 => tx σ H2 fun z H3 => ∃ O kvs es kd, Rp (bsOf X) O H3 y kd ∧ keyOk kd = true ∧ Rd H3 a (dicO (bsOf X) a es) ∧ (es.map (·.1)).Nodup ∧ Ens (bsOf X) O H3 es kvs ∧
    (match lookD kd kvs with
      | some d => ∀ v, Rp (bsOf X) O H3 v d → Q v H3
      | none => Q z H3)
theorem pe_getT {apos : Pos} {td ty tx : TE} (hu : X.A.units + 64 < cLine) (hu1 : (nestedKind X.prog X.w).room X.A.in1) (hbase : attributeBase e "get" X.env (eval e X.env) = eval e X.env) (hline : (apos.endLine == pos.line) = true)
    (hfew : ((backTo pos (starEach [a, b] X.env)).all (fun x => !x.1) && (backToKw pos (keywordEach [] X.env)).all (fun x => x.1.isSome) && decide (([a, b] : List Expr).length + ([] : List Keyword).length + (if ([] : List Keyword).isEmpty then 0 else 1) < 30)) = true)
    (htr : backTo pos (starEach [a, b] X.env) = [(false, eval a X.env), (false, eval b X.env)])
    (ho : PE X e td) (ha : PE X a ty) (hb : PE X b tx) : PE X (.Call (.Attribute e "get" apos) [a, b] [] pos) (tGet X td ty tx) := by
  refine ⟨fun pins s σ H Q I h => ?_⟩
  refine wpAny_Call_method hbase hfew hline PySem.F.plainAttrs_dict PySem.F.slot_dict_get PySem.F.type_dict_get (thn (ho.run pins s σ H _ I h) fun u s1 ⟨x, H1, I1, rx, O, ad, es, kvs, ex, sm, hH, nd, hk, q1⟩ => ?_)
  subst ex
  obtain rfl : u = Value.ref ad := rx
  have hm := inv_dictOf I1 hH nd hk
  refine ⟨hm.typeIs, ?_, ?_⟩
  · obtain ⟨o, _, _, ho, hc, _⟩ := hm
    exact fun a ea => by cases ea; exact ⟨o, ho, hc.2.1⟩
  rw [htr]
  refine Calls.callWith_builtin rfl (Calls.evalArgs_plain (Calls.spliced_cons (thn (ha.run pins s1 σ H1 _ I1 q1) fun iv s2 ⟨y, H2, I2, ry, q2⟩ => Calls.spliced_cons (thn (hb.run pins s2 σ H2 _ I2 q2) fun zv s3 ⟨z, H3, I3, rz, q3⟩ => Calls.spliced_nil ?_))))
  obtain ⟨O', kvs', es', kd, hp, hkk, hH3, nd3, hk3, q⟩ := q3
  obtain ⟨kk, bb, ek, dp, rfl, rfl, his⟩ := key_is I3 hkk hp ry
  have hm3 := inv_dictOf I3 hH3 nd3 hk3
  refine call_meetsIn PySem.F.slot_dict_get hm3.typeIs PySem.F.entry_dict_get (PySem.F.args_dict_get_3 _ _ _) (meetsH_dict_get_default (nestedKind X.prog X.w) ad bb sm zv) ⟨hu1, kk, es', his, hm3, ?_⟩
  have := ens_at kk hk3
  rw [ek] at this
  cases el : lookD kd kvs' with
  | none =>
    rw [el] at this q
    simp only at this q
    rw [this]
    exact ⟨z, H3, I3.tok _, rz, q⟩
  | some dd =>
    rw [el] at this q
    simp only at this q
    obtain ⟨b', u', v', e', rv, rp⟩ := this
    rw [e']
    exact ⟨v', H3, I3.tok _, rv, q v' rp⟩
theorem ve_get3 {apos : Pos} (k : Cok X c C n W) (hbase : attributeBase e "get" X.env (eval e X.env) = eval e X.env) (hline : (apos.endLine == pos.line) = true)
    (hfew : ((backTo pos (starEach [a, b] X.env)).all (fun x => !x.1) && (backToKw pos (keywordEach [] X.env)).all (fun x => x.1.isSome) && decide (([a, b] : List Expr).length + ([] : List Keyword).length + (if ([] : List Keyword).isEmpty then 0 else 1) < 30)) = true)
    (htr : backTo pos (starEach [a, b] X.env) = [(false, eval a X.env), (false, eval b X.env)])
    (he : VE X W e (ev C z)) (ha : VE X W a (ev C x)) (hb : VE X W b (ev C y)) : VE X W (.Call (.Attribute e "get" apos) [a, b] [] pos) (ev C (.get3 z x y)) := by
  refine PE.imp (pe_getT k.hu k.hu1 hbase hline hfew htr he ha hb) fun σ H Q q => ?_
  obtain ⟨O, ρ, env, m, S, h⟩ := q
  rw [ev] at h
  refine tV.part S h.bind fun p1 m1 v H1 S1 f1 r1 x1 => ?_
  obtain ⟨d1, fl1⟩ := p1
  cases hb2 : isDicD d1 with
  | false => simp only [hb2] at x1; exact x1.elim
  | true =>
    simp only [hb2] at x1
    obtain ⟨kvs, rfl⟩ := isDicD_ok hb2
    obtain ⟨ad, es, rfl, sm, h1, nd, hz, hk⟩ := r1.dict
    refine ⟨O, ad, es, kvs, rfl, sm, h1, nd, hk, ?_⟩
    refine tV.part S1 (x1.move f1 fun _ _ z => z).bind fun p2 m2 u H2 S2 f2 r2 x2 => ?_
    cases hk2 : keyOk p2.1 with
    | false => simp only [hk2] at x2; exact x2.elim
    | true =>
      simp only [hk2] at x2
      refine tV.part S2 (x2.move f2 fun _ _ z => z).bind fun p3 m3 w H3 S3 f3 r3 x3 => ?_
      cases hz3 : keepD p3 with
      | none => simp only [hz3] at x3; exact x3.elim
      | some zz =>
        simp only [hz3] at x3
        have r3' : RF (bsOf X) O ρ H2 H3 w p3.1 p3.2 := r3
        obtain ⟨e3, rp3⟩ := r3'.keep S2.hot (show keepD (p3.1, p3.2) = some zz from hz3)
        have r1' : RF (bsOf X) O ρ H H3 (.ref ad) (.dict kvs) fl1 := RF.go S2.cell.hρ f3 (RF.go S1.cell.hρ f2 r1)
        obtain ⟨ad', es', ea, sm', h1', nd', hz', hk'⟩ := r1'.dict
        cases ea
        obtain ⟨xs, ex⟩ := (keyOk_key hk2).2
        have rk : Rp (bsOf X) O H3 u p2.1 := by
          have r2' : RF (bsOf X) O ρ H1 H3 u p2.1 p2.2 := RF.go S2.cell.hρ f3 r2
          rw [ex] at r2' ⊢
          exact RF.keepT (H1 := H3) r2'
        refine ⟨O, kvs, es', p2.1, rk, hk2, h1', nd', hk', ?_⟩
        have e4 : get3D (.dict kvs) p2.1 zz = some ((lookD p2.1 kvs).getD zz) := by unfold get3D; simp only [hk2, if_true]
        rw [e4] at x3
        cases el : lookD p2.1 kvs with
        | none =>
          rw [el] at x3
          rw [← e3] at rp3
          exact x3 _ H3 (f1.trans (f2.trans f3)) S3.cell rp3
        | some dd =>
          rw [el] at x3
          exact fun v' rv' => x3 _ H3 (f1.trans (f2.trans f3)) S3.cell rv'
/-! ### list(range(n)) -/
theorem rgV_rps {B : Bs} {O : Hot} {H : Hp} : ∀ (n : Nat) (a : Int), Rps B O H ((List.range n).map fun i => V.int (a + (i : Nat))) (rangeL a n)
  | 0, a => .nil
  | n + 1, a => by
    rw [List.range_succ_eq_map, List.map_cons, List.map_map]
    refine .cons (by simpa using Rp.int a) ?_
    have := rgV_rps (B := B) (O := O) (H := H) n (a + 1)
    have e : ((List.range n).map fun i => V.int (a + 1 + (i : Nat))) = (List.range n).map ((fun i : Nat => V.int (a + (i : Nat))) ∘ Nat.succ) :=
      List.map_congr_left fun i _ => show V.int (a + 1 + (i : Nat)) = V.int (a + ((i + 1 : Nat) : Int)) by
        congr 1
        omega
    rw [e] at this
    exact this
theorem ve_listRange {p4 : Pos} (k : Cok X c C n W) (hg : glB c "list" = true) (hg2 : glB c "range" = true) (hst : noStar a = true) (ha : VE X W a (ev C x)) :
    VE X W (.Call (.Name "list" p2) [.Call (.Name "range" p3) [a] [] p4] [] pos) (ev C (.b1 .listRange x)) := by
  obtain ⟨g1, g2⟩ := glB_ok k hg
  obtain ⟨g3, g4⟩ := glB_ok k hg2
  refine PE.imp (pe_listRg k.calm g1 (k.blt _ (by decide)) (prg_1 g3 (k.blt _ (by decide)) ha (star1 hst)) (star1 rfl)) fun σ H Q q => ?_
  show tV (bsOf X) X.mg W (ev C x) σ H fun v H1 => ∃ n, v = .int n ∧ (RgOk 0 n ∧ ∀ q, H1 q = none → Q (.ref q) (upd H1 q (.lst (rgV 0 n))))
  refine tV.one (g := fun p => b1D .listRange p.1) (by simpa only [ev] using q) fun O ρ env m H1 v p q S rr e kk => ?_
  have rr' : ∃ Hz, RF (bsOf X) O ρ Hz H1 v p.1 p.2 := by rcases rr with rr | rr <;> exact ⟨_, rr⟩
  obtain ⟨Hz, r⟩ := rr'
  obtain ⟨dd, fd⟩ := p
  cases dd with
  | int i =>
    simp only [b1D] at e
    split at e
    · rename_i hz
      cases e
      simp only [Bool.and_eq_true, decide_eq_true_eq] at hz
      refine ⟨i, r.int, ⟨by omega, by omega, by omega, by omega, by omega⟩, fun p np => ?_⟩
      refine kk _ _ (.upd np) (S.cell.new np) (RF.newL S.cell (.refl _ _) np ?_)
      have := rgV_rps (B := bsOf X) (O := O) (H := H1) (i - 0).toNat 0
      simpa [rgV] using this
    · cases e
  | _ => cases e
end
end Tw
set_option Elab.async false
set_option linter.all false
set_option maxRecDepth 100000
set_option maxHeartbeats 1000000
/-! enumerate of a tuple; the keys of a locked dict. -/
namespace Tw
open PySem PySem.Spec PyProof.Rows L2
theorem meets_enum1B {v : Value} {o : Obj} {H : Heap → Prop} (B : Begins v o H) :
    Meets (Builtin.«enumerate.__new__» ⟨[.type "enumerate", v], []⟩) (fun _ R s => H s.heap ∧
      R (.ok (.ret (.ref (s.heap.push o).objs.size))) { s with heap := (s.heap.push o).push { cls := .type "enumerate", data := .fields #[.none, .bool false, .ref s.heap.objs.size, rawInt 0, .none, .none] } }) :=
  .of_wp fun prog w A R s h => by
    obtain ⟨hp, g, d, tk, os⟩ := s; obtain ⟨h1, h⟩ := h
    have hsub := sub_enumerate
    have q1 : ∀ {A' : Around} {E : Value → Shared → Prop} {Q : Value → Shared → Prop}, Q (.ref hp.objs.size) ⟨hp.push o, g, d, tk, os⟩ → wpAny (model prog w) A' (pyIter v) Q E ⟨hp, g, d, tk, os⟩ :=
      fun q => B.iter prog w _ _ ⟨hp, g, d, tk, os⟩ _ h1 q
    wp_walk using q1
    refine wpAny_stack_any fun st => wpAny_pure ?_
    split
    · rename_i c _ _ _ _ _
      cases (c == Value.type "enumerate")
      · wp_walk using q1
        exact ⟨_, rfl, h⟩
      · wp_walk using q1
        exact ⟨_, rfl, h⟩
    · wp_walk using q1
      exact ⟨_, rfl, h⟩
section
variable {prog : Program} {w : World} {A : Around} {E : Value → Shared → Prop} {s : Shared}
theorem call_enumB {v : Value} {o : Obj} {H : Heap → Prop} {Q : Value → Shared → Prop} (B : Begins v o H) (h1 : H s.heap)
    (h : ∀ h', IsEnum h' (s.heap.objs.size + 1) s.heap.objs.size 0 .none → h'.get? s.heap.objs.size = some o → (∀ b o, s.heap.get? b = some o → h'.get? b = some o) → Q (.ref (s.heap.objs.size + 1)) { s with heap := h' }) :
    wpAny (model prog w) A (call (.type "enumerate") [v]) Q E s := by
  refine callType_new F.called_enumerate (by decide) (F.typeCall_enumerate_1 _) (F.newCall_enumerate_1 _) (fun obj => F.args_object_init_2 obj _) F.entry_enumerate_new (meets_enum1B B) ⟨h1, ?_⟩
  have hz : (s.heap.push o).objs.size = s.heap.objs.size + 1 := Heap.size_push ..
  show _ ∧ _
  rw [hz]
  have he : IsEnum ((s.heap.push o).push { cls := .type "enumerate", data := .fields #[.none, .bool false, .ref s.heap.objs.size, rawInt 0, .none, .none] }) (s.heap.objs.size + 1) s.heap.objs.size 0 .none := by
    have := Heap.get?_push_size (s.heap.push o) (o := { cls := .type "enumerate", data := .fields #[.none, .bool false, .ref s.heap.objs.size, rawInt 0, .none, .none] }) rfl
    rw [hz] at this; exact this
  exact ⟨⟨_, he, rfl⟩, h _ he (Heap.get?_push_of_some _ (Heap.get?_push_size _ B.free)) fun b o x => Heap.get?_push_of_some _ (Heap.get?_push_of_some _ x)⟩
end
/-- enumerate of the tuple at a -/
def IteT (K : PySem.W.Frag) (a : Addr) : L2.It :=
  ⟨fun i H => ∃ (xs : List V) (x : V), SqT K H a xs ∧ xs[i]? = some x, fun i H v H' => ∃ T x, v = .ref T ∧ H T = none ∧ H' = upd H T (.tup [.int (i : Nat), x]) ∧ ∀ xs, SqT K H a xs → xs[i]? = some x, fun i H => ∃ xs : List V, SqT K H a xs ∧ xs.length = i⟩
theorem turn_enumT {P : Program} {w : World} {K : PySem.W.Frag} {elts : List Expr} {kk : Nat} {tpos : Pos} (a e it : Addr) :
    Turn P w K (.Tuple elts kk tpos) (IteT K a) [e, it] e (fun i h => (∃ old, IsEnum h e it ((i : Nat) : Int) old) ∧ h.IsTupleIter it a i ∧ e ≠ it ∧ a ≠ it ∧ e ≠ a) where
  mem := by simp
  obj := fun i h st b hb => by
    obtain ⟨⟨old, he⟩, ⟨o, ho, hc, hd⟩, _⟩ := st
    have e' : b = e ∨ b = it := by simpa using hb
    rcases e' with z | z
    · rw [z]; exact ⟨_, he, fun v q => nomatch q⟩
    · rw [z]; exact ⟨o, ho, fun v q => by rw [hd] at q; cases q⟩
  keep := fun i h h' st k => let ⟨⟨old, he⟩, hi, hne⟩ := st; ⟨⟨old, k e (by simp) _ he⟩, hi.at fun o q => k it (by simp) o q, hne⟩
  item := by
    intro X hP hw hK hc i pins s σ H E I hf st hg
    subst hP hw hK
    obtain ⟨⟨old, he⟩, hit, hne, hai, hea⟩ := st
    obtain ⟨xs, x, hq, hx⟩ := hg
    obtain ⟨its, rv, p, hz⟩ := I.tuple hq
    obtain ⟨u, hu, ru⟩ := rv.get hx
    have hel : e < s.heap.objs.size := Heap.lt_size he
    have hil : it < s.heap.objs.size := by obtain ⟨_, q, _⟩ := hit; exact Heap.lt_size q
    have hp : s.heap.IsTuple a its.toArray := p
    have hn : i < its.toArray.size := by rw [List.size_toArray]; exact (List.getElem?_eq_some_iff.mp hu).1
    refine wpAny_pyNext_enum_itemD (Draws.tuple (A := X.A.in1) (I.ok.hd hc) it a hai its.toArray) he ⟨hit, hp⟩ hn hne (by simp [hne, hea]) fun y h' tk hy ho hst hT hsz hk => ?_
    have hyu : y = u := by
      have : its[i]? = some y := by simpa using hy
      rw [hu] at this; cases this; rfl
    subst hyu
    refine ⟨_, rfl, wpAny_letOwnedTupleGo_enum (s := { s with heap := h', toks := tk + 1 }) ho fun h'' he' sb => ?_⟩
    have hT2 : h''.get? s.heap.objs.size = some { cls := .type "tuple", data := .seq #[.int i tk, y] } := (sb.2 _ (Nat.ne_of_gt hel)).trans hT
    have new : ObjOk X.prog X.w (upd H s.heap.objs.size (.tup [.int (i : Nat), x])) h'' s.heap.objs.size (.tup [.int (i : Nat), x]) :=
      ⟨by show 2 ≤ sizeLine; decide, [.int i tk, y], .cons ⟨_, rfl⟩ (.cons ru .nil), ⟨_, hT2, rfl, _, rfl⟩⟩
    have I2 : Inv X pins σ (upd H s.heap.objs.size (.tup [.int (i : Nat), x])) { s with heap := h'', toks := tk + 1 } :=
      I.turnedNew (ch := [e, it]) (fun b o hb q => (sb.2 b (fun z => hb (by simp [z]))).trans (hk b o (fun z => hb (by simp [z])) (fun z => hb (by simp [z])) q)) hf (Nat.le_refl _) new
    refine ⟨.ref s.heap.objs.size, _, I2, rfl, ⟨_, x, rfl, I.hok.fresh (Nat.le_refl _), rfl, fun ys hy => by rw [I.tuple_inj hy hq]; exact hx⟩, ⟨⟨y, ?_⟩, hst.1.at fun o q => (sb.2 it (Ne.symm hne)).trans q, hne, hai, hea⟩, fun b hb => ?_⟩
    · have e1 : (((i + 1 : Nat) : Nat) : Int) = (i : Int) + 1 := by omega
      rw [e1]
      exact he'
    · have hb' : b < s.heap.objs.size := by
        have e' : b = e ∨ b = it := by simpa using hb
        rcases e' with z | z
        · rw [z]; exact hel
        · rw [z]; exact hil
      rw [upd_ne (Nat.ne_of_lt hb')]
      exact (hf b hb).1
  done := by
    intro X hP hw hK hc i pins s σ H E I hf st hg
    subst hP hw hK
    obtain ⟨⟨old, he⟩, hit, hne, hai, hea⟩ := st
    obtain ⟨xs, hq, hx⟩ := hg
    obtain ⟨its, rv, p, hz⟩ := I.tuple hq
    obtain ⟨f0, f1, f2, f3, f4, f5⟩ := hf it (by simp)
    have hl := rv.length
    have hi : i = its.toArray.size := by rw [List.size_toArray]; omega
    subst hi
    exact wpAny_pyNext_enum_endD (Draws.tuple (A := X.A.in1) (I.ok.hd hc) it a hai its.toArray) he ⟨hit, p⟩ fun h' eb => ⟨rfl, I.turned (t' := s.toks) (fun b o hb q => eb b o hb q) f0 f1 f3 f4 f5⟩
  self := fun A i s Q E st h => let ⟨⟨_, he⟩, _⟩ := st; wpAny_pyIter_enum he h
def iEnum2 (K : PySem.W.Frag) (ta : TE) : TI := fun σ H R => ta σ H fun v H1 => ∃ a xs, v = .ref a ∧ ((SqL K H1 a xs ∧ R (Ite K a) H1) ∨ (SqT K H1 a xs ∧ R (IteT K a) H1))
theorem boot_enumerate' : bootBuiltins "enumerate" = some (.type "enumerate") := by decide +kernel
theorem pi_enum2 {X : Cx} {e : Expr} {ta : TE} {p pos tpos : Pos} {elts : List Expr} {kk : Nat} (hg : Gl X "enumerate") (hm : X.mg "enumerate" = none) (ha : PE X e ta) (hs : starEach [e] X.env = (false, eval e X.env) :: starEach [] X.env) :
    PI X (.Tuple elts kk tpos) (.Call (.Name "enumerate" p) [e] [] pos) (iEnum2 X.K ta) := by
  refine ⟨fun pins s σ H R I h => ?_⟩
  refine Call_ (ld_blt I hg hm boot_enumerate' (PyProof.Rows.callWith_type1 (one_arg ha I h (fun v s1 x H1 I1 r q1 => ?_) hs) hs))
  obtain ⟨a, xs, ex, q⟩ := q1
  subst ex
  cases r
  rcases q with ⟨hq, q⟩ | ⟨hq, q⟩
  · obtain ⟨its, rv, p', hz⟩ := I1.list hq
    refine call_enumerate_list p'.isList fun h' he hit hsz hk => wpAny_pyIter_enum he ?_
    have I2 : Inv X pins σ H1 { s1 with heap := h' } := I1.kept (t' := s1.toks) hk
    refine ⟨s1.heap.objs.size + 1, [s1.heap.objs.size + 1, s1.heap.objs.size], _, _, H1, rfl, I2, turn_enum a (s1.heap.objs.size + 1) s1.heap.objs.size, ⟨⟨.none, he⟩, hit, Nat.succ_ne_self _⟩, fun b hb => ?_, q⟩
    have e' : b = s1.heap.objs.size + 1 ∨ b = s1.heap.objs.size := by simpa using hb
    have hle : s1.heap.objs.size ≤ b := by
      rcases e' with z | z
      · rw [z]; exact Nat.le_add_right _ _
      · rw [z]; exact Nat.le_refl _
    exact I1.fpOk hle (I1.hok.fresh hle)
  · obtain ⟨its, rv, p', hz⟩ := I1.tuple hq
    refine call_enumB (begins_tuple a its.toArray) p' fun h' he hit hk => wpAny_pyIter_enum he ?_
    have I2 : Inv X pins σ H1 { s1 with heap := h' } := I1.kept (t' := s1.toks) hk
    have hal : a < s1.heap.objs.size := by obtain ⟨o, ho, _⟩ := p'; exact Heap.lt_size ho
    refine ⟨s1.heap.objs.size + 1, [s1.heap.objs.size + 1, s1.heap.objs.size], _, _, H1, rfl, I2, turn_enumT a (s1.heap.objs.size + 1) s1.heap.objs.size, ⟨⟨.none, he⟩, ⟨_, hit, rfl, rfl⟩, Nat.succ_ne_self _, Nat.ne_of_lt hal, Nat.ne_of_gt (Nat.lt_succ_of_lt hal)⟩, fun b hb => ?_, q⟩
    have e' : b = s1.heap.objs.size + 1 ∨ b = s1.heap.objs.size := by simpa using hb
    have hle : s1.heap.objs.size ≤ b := by
      rcases e' with z | z
      · rw [z]; exact Nat.le_add_right _ _
      · rw [z]; exact Nat.le_refl _
    exact I1.fpOk hle (I1.hok.fresh hle)
/-! ### a list or a tuple -/
def iSeq (K : PySem.W.Frag) (ta : TE) : TI := fun σ H R => ta σ H fun v H1 => ∃ a xs, v = .ref a ∧ ((SqL K H1 a xs ∧ R (Itl K a) H1) ∨ (SqT K H1 a xs ∧ R (Itt K a) H1))
theorem pi_seq {X : Cx} {tg e : Expr} {ta : TE} (ha : PE X e ta) : PI X tg e (iSeq X.K ta) := by
  refine ⟨fun pins s σ H R I h => ?_⟩
  refine thn (ha.run pins s σ H _ I h) fun v s1 ⟨x, H1, I1, r1, a, xs, ex, q⟩ => ?_
  subst ex
  cases r1
  rcases q with ⟨hq, q⟩ | ⟨hq, q⟩
  · obtain ⟨its, rv, p, hz⟩ := I1.list hq
    exact wpAny_pyIter_list p.isList (pi_one (tk := s1.toks) I1 _ (turn_list a _) ⟨_, Heap.get?_push_size _ rfl, rfl, rfl⟩ q)
  · obtain ⟨its, rv, p, hz⟩ := I1.tuple hq
    exact wpAny_pyIter_tuple (show s1.heap.IsTuple a its.toArray from p) (pi_one (tk := s1.toks) I1 _ (turn_tuple a _) ⟨_, Heap.get?_push_size _ rfl, rfl, rfl⟩ q)
/-! ### the keys of a locked dict -/
def ItkN (B : Bs) (d : Addr) (od : Obj) (es : List Ent) : L2.It :=
  ⟨fun i H => H d = some (.frz od (dicO B d es)) ∧ i < es.length, fun i H x H' => H' = H ∧ ∃ e, es[i]? = some e ∧ x = .ref e.2.1, fun i H => H d = some (.frz od (dicO B d es)) ∧ i = es.length⟩
theorem frz_raw {X : Cx} {pins : List (Addr × Obj)} {σ : L2.St} {H : Hp} {s : Shared} {d : Addr} {od : Obj} {es : List Ent} (I : Inv X pins σ H s) (h : H d = some (.frz od (dicO (bsOf X) d es))) :
    ∃ es' ep, s.heap.get? d = some od ∧ od.ExactDict ∧ od.data = .dict es' ep ∧ es'.toList = es.map (entryOfKey (nestedKind X.prog X.w)) := by
  obtain ⟨h1, ⟨o, es', ep, h2, h3, h4, h5⟩, _⟩ := I.hok d _ h
  rw [h1] at h2
  cases h2
  exact ⟨es', ep, h1, h3, h4, h5⟩
theorem turn_keysN {X0 : Cx} {tg : Expr} (d it : Addr) (od : Obj) (es : List Ent) (es' : Array DictEntry) (ep : Nat) (hod : od.data = .dict es' ep) :
    Turn X0.prog X0.w X0.K tg (ItkN (bsOf X0) d od es) [it] it (fun i h => h.IsKeyIter it d i es'.size ep ∧ d ≠ it) where
  mem := by simp
  obj := fun i h st b hb => by
    have e : b = it := by simpa using hb
    subst e
    obtain ⟨⟨oi, e, c, dd⟩, _⟩ := st
    exact ⟨oi, e, fun v z => by rw [dd] at z; cases z⟩
  keep := fun i h h' st k => ⟨st.1.at fun oi e => k it (by simp) oi e, st.2⟩
  item := by
    intro X hP hw hK hc i pins s σ H E I hf st hg
    obtain ⟨hd, hi⟩ := hg
    obtain ⟨f0, f1, f2, f3, f4, f5⟩ := hf it (by simp)
    have hB : bsOf X0 = bsOf X := by show (⟨X0.prog, X0.w, X0.K⟩ : Bs) = ⟨X.prog, X.w, X.K⟩; rw [hP, hw, hK]
    rw [hB] at hd
    obtain ⟨es2, ep2, h1, h3, h4, h5⟩ := frz_raw I hd
    rw [hod] at h4
    cases h4
    have hlen : es'.size = es.length := by have := congrArg List.length h5; simpa using this
    have W := Walks.rawKeys (prog := X0.prog) (w := X0.w) (A := X.A) (I.ok.hd hc) it d st.2 es' ep
    refine W.item i s _ _ (by omega) ⟨st.1, od, h1, h3, hod⟩ fun v h' tk hv st' kk => ?_
    obtain ⟨hi', ev⟩ := hv
    have hlt : i < es.length := by omega
    have e6 : es'[i] = entryOfKey (nestedKind X.prog X.w) es[i] := by
      have h6 : es'.toList[i]? = some es'[i] := by rw [Array.getElem?_toList, Array.getElem?_eq_getElem hi']
      rw [h5, List.getElem?_map, List.getElem?_eq_getElem hlt] at h6
      exact (Option.some.inj h6).symm
    have ev2 : v = .ref es[i].2.1 := by rw [ev, e6]; rfl
    have I1 : Inv X pins σ H { s with heap := h', toks := tk } := I.turned (fun b ob hb e => kk b ob (by simpa using hb) e) f0 f1 f3 f4 f5
    obtain ⟨oi, e, c, dd⟩ := id st'.1
    exact ⟨v, rfl, go_of (s := { s with heap := h', toks := tk }) e c dd (by decide) ⟨.ref es[i].2.1, H, I1, ev2, ⟨rfl, es[i], List.getElem?_eq_getElem hlt, rfl⟩, ⟨st'.1, st.2⟩, fun b hb => (hf b hb).1⟩⟩
  done := by
    intro X hP hw hK hc i pins s σ H E I hf st hg
    obtain ⟨hd, hi⟩ := hg
    obtain ⟨f0, f1, f2, f3, f4, f5⟩ := hf it (by simp)
    have hB : bsOf X0 = bsOf X := by show (⟨X0.prog, X0.w, X0.K⟩ : Bs) = ⟨X.prog, X.w, X.K⟩; rw [hP, hw, hK]
    rw [hB] at hd
    obtain ⟨es2, ep2, h1, h3, h4, h5⟩ := frz_raw I hd
    rw [hod] at h4
    cases h4
    have hlen : es'.size = es.length := by have := congrArg List.length h5; simpa using this
    have W := Walks.rawKeys (prog := X0.prog) (w := X0.w) (A := X.A) (I.ok.hd hc) it d st.2 es' ep
    have hi2 : i = es'.size := by omega
    subst hi2
    exact W.done s _ _ ⟨st.1, od, h1, h3, hod⟩ fun h' tk kk => ⟨rfl, I.turned (fun b ob hb e => kk b ob (by simpa using hb) e) f0 f1 f3 f4 f5⟩
  self := fun A i s Q E st h => wpAny_pyIter_keyiter st.1 h
def iKeysN (B : Bs) (te : TE) : TI := fun σ H R => te σ H fun x H1 => ∃ d od es, x = .ref d ∧ (d == sysModules) = false ∧ H1 d = some (.frz od (dicO B d es)) ∧ R (ItkN B d od es) H1
theorem pi_keysN {X : Cx} {tg e : Expr} {te : TE} {apos cpos : Pos} (he : PE X e te) (hbase : attributeBase e "keys" X.env (eval e X.env) = eval e X.env) (hline : (apos.endLine == cpos.line) = true) : PI X tg (.Call (.Attribute e "keys" apos) [] [] cpos) (iKeysN (bsOf X) te) := by
  refine ⟨fun pins s σ H R I h => ?_⟩
  refine wpAny_Call_method (T := "dict") (id := "dict.keys") hbase rfl hline F.plainAttrs_dict F.slot_dict_keys F.type_dict_keys (thn (he.run pins s σ H _ I h) fun u s1 ⟨x, H1, I1, rx, d, od, es, ex, sm, hd, q⟩ => ?_)
  subst ex
  obtain rfl : u = Value.ref d := rx
  obtain ⟨es', ep, h1, h3, h4, h5⟩ := frz_raw I1 hd
  have hraw : s1.heap.DictRaw d es' ep := ⟨od, h1, h3, h4⟩
  refine ⟨hraw.typeIs, fun a ea => by cases ea; exact ⟨od, h1, h3.2.1⟩, ?_⟩
  have I2 : Inv X pins σ H1 { s1 with heap := s1.heap.push { cls := .type "dict_keys", data := .fields #[.ref d] } } := I1.kept (t' := s1.toks) fun b ob q => Heap.get?_push_of_some _ q
  have hlt : d < s1.heap.objs.size := Heap.lt_size h1
  have fin : wpAny (model X.prog X.w) X.A (pyIter (.ref s1.heap.objs.size)) (PIE X pins σ tg R) X.xe { s1 with heap := s1.heap.push { cls := .type "dict_keys", data := .fields #[.ref d] } } := by
    refine PySem.wpAny_pyIter_keys_raw (d := d) ⟨_, Heap.get?_push_size _ rfl, rfl, rfl⟩ (hraw.push _) (pi_one (tk := s1.toks) I2 _ (turn_keysN d _ od es es' ep h4) ⟨⟨_, Heap.get?_push_size _ rfl, rfl, rfl⟩, ?_⟩ q)
    show d ≠ (s1.heap.push _).objs.size
    rw [Heap.size_push]
    exact Nat.ne_of_lt (Nat.lt_succ_of_lt hlt)
  show wpAny _ _ (callWith cpos (.builtin "dict.keys") [.ref d] [] []) _ X.xe s1
  exact method_meetsIn F.slot_dict_keys F.entry_dict_keys rfl (PySem.evalArgs_none ⟨rfl, hraw.typeIs, F.args_dict_keys_1 _, _, PySem.meets_dict_keys_raw d sm, ⟨es', ep, hraw⟩, fin⟩)
end Tw
set_option Elab.async false
set_option linter.all false
set_option maxRecDepth 100000
set_option maxHeartbeats 1000000
/-! Targets; what is walked. -/
namespace Tw
open PySem PySem.Spec PyProof.Rows L2
/-! ### targets -/
/-- the own lists' and dicts' places: none is old, no two are one -/
structure Own (Old : Addr → Prop) (σ : L2.St) (env : Ev) : Prop where
  new : ∀ (i : Nat) (s : Sl) (a : Addr), env[i]? = some (some s) → isOwn s = true → σ[i]? = some (some (.ref a)) → ¬ Old a
  apart : ∀ (i j : Nat) (s t : Sl) (a : Addr), i ≠ j → env[i]? = some (some s) → isOwn s = true → env[j]? = some (some t) → isOwn t = true → σ[i]? = some (some (.ref a)) → σ[j]? ≠ some (some (.ref a))
mutual
def ixG : Tg → List Nat
  | .n i => [i]
  | .t ts => ixGs ts
def ixGs : Tgs → List Nat
  | .nil => []
  | .cons t r => ixG t ++ ixGs r
end
/-- σ', env' come of σ, env by stores of plain values at is -/
structure Sto (is : List Nat) (σ σ' : L2.St) (env env' : Ev) : Prop where
  wipe : ∀ vs : List Nat, (∀ i ∈ is, i ∈ vs) → L2.wipe σ' vs = L2.wipe σ vs
  old : ∀ (j : Nat) (s : Sl), env'[j]? = some (some s) → isOwn s = true → env[j]? = some (some s) ∧ σ'[j]? = σ[j]?
  lenS : σ'.length = σ.length
theorem Sto.refl (is : List Nat) (σ : L2.St) (env : Ev) : Sto is σ σ env env := ⟨fun _ _ => rfl, fun _ _ h _ => ⟨h, rfl⟩, rfl⟩
theorem Sto.trans {is js : List Nat} {σ σ' σ2 : L2.St} {env env' env2 : Ev} (a : Sto is σ σ' env env') (b : Sto js σ' σ2 env' env2) : Sto (is ++ js) σ σ2 env env2 :=
  ⟨fun vs h => (b.wipe vs fun i hi => h i (List.mem_append_right _ hi)).trans (a.wipe vs fun i hi => h i (List.mem_append_left _ hi)), fun j s h o => by
    obtain ⟨h1, h2⟩ := b.old j s h o
    obtain ⟨h3, h4⟩ := a.old j s h1 o
    exact ⟨h3, h2.trans h4⟩, b.lenS.trans a.lenS⟩
theorem Sto.own {Old : Addr → Prop} {is : List Nat} {σ σ' : L2.St} {env env' : Ev} (a : Sto is σ σ' env env') (o : Own Old σ env) : Own Old σ' env' := by
  refine ⟨fun i s ad h1 h2 h3 => ?_, fun i j s t ad hij h1 h2 h3 h4 h5 => ?_⟩
  · obtain ⟨q1, q2⟩ := a.old i s h1 h2
    exact o.new i s ad q1 h2 (q2 ▸ h3)
  · obtain ⟨q1, q2⟩ := a.old i s h1 h2
    obtain ⟨q3, q4⟩ := a.old j t h3 h4
    rw [q4]
    exact o.apart i j s t ad hij q1 h2 q3 h4 (q2 ▸ h5)
theorem wipe_set {σ : L2.St} {i : Nat} {x : Option V} : ∀ {vs : List Nat}, i ∈ vs → L2.wipe (σ.set i x) vs = L2.wipe σ vs := by
  intro vs h
  refine List.ext_getElem? fun j => ?_
  by_cases hj : j ∈ vs
  · have key : ∀ (τ : L2.St) (ws : List Nat), j ∈ ws → (L2.wipe τ ws)[j]? = if j < τ.length then some none else none := by
      intro τ ws
      induction ws with
      | nil => intro h; cases h
      | cons w ws ih =>
        intro h
        unfold L2.wipe
        by_cases hw : w = j
        · subst hw
          by_cases hl : w < τ.length
          · rw [List.getElem?_set_self (by rw [wipe_length]; exact hl), if_pos hl]
          · rw [if_neg hl, List.getElem?_eq_none (by rw [List.length_set, wipe_length]; omega)]
        · rw [List.getElem?_set_ne hw]
          exact ih ((List.mem_cons.mp h).resolve_left fun e => hw e.symm)
    rw [key _ _ hj, key _ _ hj, List.length_set]
  · have key : ∀ (τ : L2.St) (ws : List Nat), j ∉ ws → (L2.wipe τ ws)[j]? = τ[j]? := by
      intro τ ws
      induction ws with
      | nil => intro _; rfl
      | cons w ws ih =>
        intro h
        simp only [List.mem_cons, not_or] at h
        unfold L2.wipe
        rw [List.getElem?_set_ne (fun e => h.1 e.symm)]
        exact ih h.2
    rw [key _ _ hj, key _ _ hj, List.getElem?_set_ne (fun e => hj (by rw [← e]; exact h))]
section
variable {B : Bs} {O O' : Hot} {H H' : Hp} {ρ : Option Addr} {σ : L2.St} {env : Ev} {m : Mu}
theorem SR.set (S : SR B O ρ σ H env m) {i : Nat} {v : V} {s : Sl} (r : SlR B O ρ H v s) : SR B O ρ (σ.set i (some v)) H (setS env i s) m := by
  refine ⟨S.hot, fun j t e => ?_, S.cell, by unfold setS; rw [List.length_set, List.length_set]; exact S.len⟩
  unfold setS at e
  by_cases hj : i = j
  · subst hj
    have hl : i < env.length := by
      rcases Nat.lt_or_ge i env.length with h | h
      · exact h
      · rw [List.getElem?_eq_none (by rw [List.length_set]; exact h)] at e; cases e
    rw [List.getElem?_set_self hl] at e
    cases e
    exact ⟨v, List.getElem?_set_self (Nat.lt_of_lt_of_le hl S.len), r⟩
  · rw [List.getElem?_set_ne hj] at e
    obtain ⟨v', e1, r1⟩ := S.slot j t e
    exact ⟨v', by rw [List.getElem?_set_ne hj]; exact e1, r1⟩
theorem sto_set {i : Nat} {v : V} {s : Sl} (hs : isOwn s = false) : Sto [i] σ (σ.set i (some v)) env (setS env i s) := by
  refine ⟨fun vs h => wipe_set (h i (List.mem_singleton.mpr rfl)), fun j t e o => ?_, List.length_set⟩
  unfold setS at e
  by_cases hj : i = j
  · subst hj
    by_cases hl : i < env.length
    · rw [List.getElem?_set_self hl] at e
      cases e
      rw [hs] at o; cases o
    · rw [List.getElem?_eq_none (by rw [List.length_set]; omega)] at e; cases e
  · rw [List.getElem?_set_ne hj] at e
    exact ⟨e, List.getElem?_set_ne hj⟩
end
def gB (B : Bs) (t : Tg) : TG := fun v σ H Q => ∃ O ρ env m x env', SR B O ρ σ H env m ∧ Rp B O H v x ∧ bindG t env x = some env' ∧ ∀ σ', SR B O ρ σ' H env' m → Sto (ixG t) σ σ' env env' → Q σ' H
def gBs (B : Bs) (ts : Tgs) : TGs := fun vs σ H Q => ∃ O ρ env m xs env', SR B O ρ σ H env m ∧ Rps B O H vs xs ∧ bindGs ts env xs = some env' ∧ ∀ σ', SR B O ρ σ' H env' m → Sto (ixGs ts) σ σ' env env' → Q σ' H
section
variable {X : Cx} {W : WX} {c : Ck} {C : Calls} {n : Nat} {e a b d : Expr} {pos p2 : Pos} {x y z : Ex}
theorem PG.imp {X : Cx} {e : Expr} {t t' : TG} (h : PG X e t) (k : ∀ v σ H Q, t' v σ H Q → t v σ H Q) : PG X e t' := ⟨fun pins s σ H v u Q I r q => h.run pins s σ H v u Q I r (k v σ H Q q)⟩
theorem PGs.imp {X : Cx} {e : List Expr} {t t' : TGs} (h : PGs X e t) (k : ∀ v σ H Q, t' v σ H Q → t v σ H Q) : PGs X e t' := ⟨fun pins s σ H v u Q I r q => h.run pins s σ H v u Q I r (k v σ H Q q)⟩
/-- a name that may be stored -/
def locB (c : Ck) (i : Nat) (x : Str) : Bool := decide (c.N[i]? = some x) && (match c.sc.names.lookup x with | some .local => true | some .cell => c.fnc x | _ => false)
theorem locB_ok {i : Nat} {x : Str} (k : Cok X c C n W) (h : locB c i x = true) : X.N[i]? = some x ∧ L2.Loc X.env.scope x ∧ (X.fn x = true ∨ X.env.scope.names.lookup x = some .local) := by
  unfold locB at h
  simp only [Bool.and_eq_true, decide_eq_true_eq] at h
  obtain ⟨h1, h2⟩ := h
  refine ⟨by rw [k.hN]; exact h1, ?_⟩
  unfold L2.Loc
  rw [k.hsc, k.hfn]
  split at h2
  · rename_i e; exact ⟨.inl e, .inr e⟩
  · rename_i e; exact ⟨.inr e, .inl h2⟩
  · cases h2
theorem nd_of (k : Cok X c C n W) : X.N.Nodup := by rw [k.hN]; exact k.nd
theorem vg_name {i : Nat} {xx : Str} (k : Cok X c C n W) (h : locB c i xx = true) : PG X (.Name xx pos) (gB (bsOf X) (.n i)) := by
  obtain ⟨h1, h2, h3⟩ := locB_ok k h
  refine PG.imp (pg_name (nd_of k) h1 h2 h3) fun v σ H Q q => ?_
  obtain ⟨O, ρ, env, m, x, env', S, r, e, q⟩ := q
  rw [bindG] at e
  cases e
  exact q _ (S.set (s := .v x) r) (sto_set rfl)
theorem vgs_nil : PGs X [] (gBs (bsOf X) .nil) := by
  refine PGs.imp pgs_nil fun vs σ H Q q => ?_
  obtain ⟨O, ρ, env, m, xs, env', S, r, e, q⟩ := q
  cases xs with
  | nil =>
    rw [bindGs] at e
    cases e
    cases r
    exact ⟨rfl, q σ S (Sto.refl _ _ _)⟩
  | cons x xs => rw [bindGs] at e <;> first | cases e | simp
theorem vgs_cons {es : List Expr} {t : Tg} {r : Tgs} (hs : (assignEach (e :: es) X.env).map (·.2) = assign e X.env :: (assignEach es X.env).map (·.2)) (h : PG X e (gB (bsOf X) t)) (hr : PGs X es (gBs (bsOf X) r)) : PGs X (e :: es) (gBs (bsOf X) (.cons t r)) := by
  refine PGs.imp (pgs_cons h hr hs) fun vs σ H Q q => ?_
  obtain ⟨O, ρ, env, m, xs, env', S, rv, e, q⟩ := q
  cases xs with
  | nil => rw [bindGs] at e <;> first | cases e | simp
  | cons x xs =>
    cases rv with
    | cons r1 r2 =>
      rw [bindGs] at e
      cases e1 : bindG t env x with
      | none => simp only [e1] at e; cases e
      | some env1 =>
        simp only [e1] at e
        refine ⟨_, _, rfl, O, ρ, env, m, x, env1, S, r1, e1, fun σ1 S1 st1 => ?_⟩
        exact ⟨O, ρ, env1, m, xs, env', S1, r2, e, fun σ2 S2 st2 => q σ2 S2 (st1.trans st2)⟩
def lenG : Tgs → Nat
  | .nil => 0
  | .cons _ r => lenG r + 1
theorem bindGs_len : ∀ (ts : Tgs) (env env' : Ev) (xs : List PyData), bindGs ts env xs = some env' → xs.length = lenG ts
  | .nil, env, env', [], h => rfl
  | .nil, env, env', x :: xs, h => by rw [bindGs] at h <;> first | cases h | simp
  | .cons t r, env, env', [], h => by rw [bindGs] at h <;> first | cases h | simp
  | .cons t r, env, env', x :: xs, h => by
    rw [bindGs] at h
    split at h
    · simp [lenG, bindGs_len r _ _ _ h]
    · cases h
theorem vg_tup {es : List Expr} {kk : Nat} {ts : Tgs} (k : Cok X c C n W) (hn : (assignEach es X.env).length = lenG ts) (hst : (assignEach es X.env).findIdx? (·.1) = none) (h : PGs X es (gBs (bsOf X) ts)) : PG X (.Tuple es kk pos) (gB (bsOf X) (.t ts)) := by
  refine PG.imp (pg_tup k.calm h hn hst) fun v σ H Q q => ?_
  obtain ⟨O, ρ, env, m, x, env', S, r, e, q⟩ := q
  cases x with
  | tuple xs =>
    rw [bindG] at e
    have r' : RF (bsOf X) O ρ H H v (.tuple xs) .c := r
    obtain ⟨a, vs, rfl, hs, hv⟩ := r'.tuple
    refine ⟨a, vs, rfl, hs, by rw [hv.length, bindGs_len _ _ _ _ e], O, ρ, env, m, xs, env', S, hv, e, fun σ' S' st => q σ' S' st⟩
  | _ => rw [bindG] at e <;> first | cases e | simp

/-! ### what is walked -/
def GoesE (O O' : Hot) (H H' : Hp) : Prop := ∀ b o, ¬ O b → H b = some o → H' b = some o ∧ ¬ O' b
theorem GoesE.goes {O O' : Hot} {H H' : Hp} (g : GoesE O O' H H') : Goes O O' H H' := fun b u n r => by
  rcases r with r | ⟨o, r⟩
  · exact ⟨.inl (g b _ n r).1, (g b _ n r).2⟩
  · exact ⟨.inr ⟨o, (g b _ n r).1⟩, (g b _ n r).2⟩
def okH (O : Hot) (ρ : Option Addr) (H1 : Hp) (fl : Fl) (O' : Hot) (H : Hp) : Prop := GoesE O O' H1 H ∧ (fl = .b → Fr ρ H1 H)
structure ItR (B : Bs) (J : L2.It) (O : Hot) (ρ : Option Addr) (H1 : Hp) (fl : Fl) (xs : List PyData) : Prop where
  go : ∀ O' H i, okH O ρ H1 fl O' H → i < xs.length → J.go i H
  stop : ∀ O' H, okH O ρ H1 fl O' H → J.stop xs.length H
  yld : ∀ O' H i x H', okH O ρ H1 fl O' H → i < xs.length → J.yld i H x H' → ∃ d, xs[i]? = some d ∧ (H' = H ∨ ∃ T o, H T = none ∧ H' = upd H T o) ∧ ((∀ b, O' b → ∃ o, H b = some o) → Rp B O' H' x d)
def tI (B : Bs) (mg : Str → Option Value) (W : WX) (f : Ev → Mu → Out (List PyData × Fl)) : TI := fun σ H R => ∃ O ρ env m, SR B O ρ σ H env m ∧ Pg ⟨B, mg, O, ρ, W⟩ σ H (fun p m' => ∀ J H', Fr ρ H H' → Cell B O ρ H' m' → ItR B J O ρ H' p.2 p.1 → R J H') (f env m)
def VI (X : Cx) (W : WX) (tg iter : Expr) (f : Ev → Mu → Out (List PyData × Fl)) : Prop := PI X tg iter (tI (bsOf X) X.mg W f)
theorem PI.imp {X : Cx} {tg e : Expr} {t t' : TI} (h : PI X tg e t) (k : ∀ σ H R, t' σ H R → t σ H R) : PI X tg e t' := ⟨fun pins s σ H R I q => h.run pins s σ H R I (k σ H R q)⟩
theorem itr_mk {B : Bs} {J : L2.It} {O : Hot} {ρ : Option Addr} {H1 : Hp} {fl : Fl} {vs : List V} {xs : List PyData} (P : Hp → Prop) (hv : Rps B O H1 vs xs) (hP : ∀ O' H, okH O ρ H1 fl O' H → P H) (go : ∀ i H, P H → i < vs.length → J.go i H) (stop : ∀ H, P H → J.stop vs.length H)
    (yld : ∀ i H x H', P H → J.yld i H x H' → H' = H ∧ vs[i]? = some x) : ItR B J O ρ H1 fl xs := by
  refine ⟨fun O' H i ok hi => go i H (hP O' H ok) (by rw [hv.length]; exact hi), fun O' H ok => by rw [← hv.length]; exact stop H (hP O' H ok), fun O' H i x H' ok hi y => ?_⟩
  obtain ⟨rfl, e⟩ := yld i H x H' (hP O' H ok) y
  obtain ⟨d, e1, r⟩ := hv.getV e
  exact ⟨d, e1, .inl rfl, fun _ => Rp.go ok.1.goes _ _ r⟩
/-- a pair, new at each turn -/
theorem itr_pair {B : Bs} {J : L2.It} {O : Hot} {ρ : Option Addr} {H1 : Hp} {fl : Fl} {us vs : List V} {ys xs : List PyData} {ps : List PyData} (P : Hp → Prop) (hu : Rps B O H1 us ys) (hv : Rps B O H1 vs xs) (hP : ∀ O' H, okH O ρ H1 fl O' H → P H) (go : ∀ i H, P H → i < ps.length → J.go i H)
    (stop : ∀ H, P H → J.stop ps.length H) (hps : ∀ i y x, i < ps.length → ys[i]? = some y → xs[i]? = some x → ps[i]? = some (.tuple [y, x]))
    (yld : ∀ i H v H', P H → i < ps.length → J.yld i H v H' → ∃ T x y, v = .ref T ∧ H T = none ∧ H' = upd H T (.tup [y, x]) ∧ us[i]? = some y ∧ vs[i]? = some x) : ItR B J O ρ H1 fl ps := by
  refine ⟨fun O' H i ok hi => go i H (hP O' H ok) hi, fun O' H ok => stop H (hP O' H ok), fun O' H i v H' ok hi y => ?_⟩
  obtain ⟨T, x, y, rfl, hT, rfl, e1, e2⟩ := yld i H v H' (hP O' H ok) hi y
  obtain ⟨dy, g1, r1⟩ := hu.getV e1
  obtain ⟨dx, g2, r2⟩ := hv.getV e2
  refine ⟨_, hps i dy dx hi g1 g2, .inr ⟨T, _, hT, rfl⟩, fun hot => ?_⟩
  have n1 : ¬ O' T := fun z => by obtain ⟨o, q⟩ := hot T z; rw [hT] at q; cases q
  exact .tup n1 (.inl upd_same) (.cons (Rp.go (goes_upd hT) _ _ (Rp.go ok.1.goes _ _ r1)) (.cons (Rp.go (goes_upd hT) _ _ (Rp.go ok.1.goes _ _ r2)) .nil))
/-- how a list or a tuple stands that is walked -/
def StL (K : PySem.W.Frag) (P : Hp → Prop) (d : PyData) (a : Addr) (vs : List V) : Prop := (∃ xs, d = .list xs) ∧ (∀ H, P H → SqL K H a vs) ∨ (∃ xs, d = .tuple xs) ∧ (∀ H, P H → SqT K H a vs)
theorem seq_st {B : Bs} {O : Hot} {ρ : Option Addr} {H H1 : Hp} {v : V} {d : PyData} {fl : Fl} {xs : List PyData} (hot : ∀ a, O a → ∃ o, H a = some o) (r : RF B O ρ H H1 v d fl) (e : seqOf d = some xs) :
    ∃ a vs, v = .ref a ∧ Rps B O H1 vs xs ∧ (((∃ xs, d = .list xs) ∧ ∀ O' H2, okH O ρ H1 (joinF fl .c) O' H2 → SqL B.K H2 a vs) ∨ ((∃ xs, d = .tuple xs) ∧ ∀ O' H2, okH O ρ H1 (joinF fl .c) O' H2 → SqT B.K H2 a vs)) := by
  rcases seqOf_cases e with e | e
  · subst e
    cases fl with
    | b =>
      obtain ⟨a, rfl, ne, k⟩ := r
      cases k with
      | lst h k => exact ⟨a, _, rfl, k, .inl ⟨⟨_, rfl⟩, fun O' H2 ok => sqL_of ((ok.2 rfl).rd ne h)⟩⟩
    | c =>
      cases r with
      | lst n h k => exact ⟨_, _, rfl, k, .inl ⟨⟨_, rfl⟩, fun O' H2 ok => sqL_of (ok.1.goes.rd n h).1⟩⟩
    | f =>
      obtain ⟨_, r'⟩ := RF.keep (d' := .list xs) hot r rfl
      cases r' with
      | lst n h k => exact ⟨_, _, rfl, k, .inl ⟨⟨_, rfl⟩, fun O' H2 ok => sqL_of (ok.1.goes.rd n h).1⟩⟩
  · subst e
    have r' : RF B O ρ H H1 v (.tuple xs) .c := r.keepT
    cases r' with
    | tup n h k => exact ⟨_, _, rfl, k, .inr ⟨⟨_, rfl⟩, fun O' H2 ok => sqT_of (ok.1.goes.rd n h).1⟩⟩
    | tupK s k => exact ⟨_, _, rfl, k, .inr ⟨⟨_, rfl⟩, fun O' H2 ok => s H2⟩⟩
theorem okH_self {O : Hot} {ρ : Option Addr} {H1 : Hp} {fl : Fl} : okH O ρ H1 fl O H1 := ⟨fun _ _ n e => ⟨e, n⟩, fun _ => .refl _ _⟩
theorem vi_val {tg : Expr} (ha : VE X W a (ev C x)) : VI X W tg a (evI C (.val x)) := by
  refine PI.imp (pi_seq ha) fun σ H R q => ?_
  obtain ⟨O, ρ, env, m, S, h⟩ := q
  rw [evI] at h
  refine tV.part S h.bind fun p1 m1 v H1 S1 f1 r1 x1 => ?_
  cases e : seqOf p1.1 with
  | none => simp only [e] at x1; exact x1.elim
  | some xs =>
    simp only [e] at x1
    obtain ⟨a, vs, rfl, hv, hs⟩ := seq_st S.hot r1 e
    refine ⟨a, vs, rfl, ?_⟩
    rcases hs with ⟨_, hs⟩ | ⟨_, hs⟩
    · refine .inl ⟨hs O H1 okH_self, x1 _ H1 f1 S1.cell ?_⟩
      exact itr_mk (fun H2 => SqL X.K H2 a vs) hv hs (fun i H2 q hi => ⟨vs, vs[i], q, by simp [hi]⟩) (fun H2 q => ⟨vs, q, Nat.le_refl _⟩) fun i H2 x H3 q y => ⟨y.1, y.2 vs q⟩
    · refine .inr ⟨hs O H1 okH_self, x1 _ H1 f1 S1.cell ?_⟩
      exact itr_mk (fun H2 => SqT X.K H2 a vs) hv hs (fun i H2 q hi => ⟨vs, vs[i], q, by simp [hi]⟩) (fun H2 q => ⟨vs, q, Nat.le_refl _⟩) fun i H2 x H3 q y => ⟨y.1, y.2 vs q⟩
theorem rangeL_len : ∀ (n : Nat) (lo : Int), (rangeL lo n).length = n
  | 0, _ => rfl
  | n + 1, lo => by simp [rangeL, rangeL_len n]
theorem rangeL_get : ∀ (n : Nat) (lo : Int) (i : Nat), i < n → (rangeL lo n)[i]? = some (.int (lo + i))
  | 0, _, _, h => by omega
  | n + 1, lo, 0, _ => by simp [rangeL]
  | n + 1, lo, i + 1, h => by
    simp only [rangeL, List.getElem?_cons_succ]
    rw [rangeL_get n (lo + 1) i (by omega)]
    congr 2
    push_cast
    omega
theorem itr_range {B : Bs} {O : Hot} {ρ : Option Addr} {H1 : Hp} {fl : Fl} (lo : Int) (n : Nat) : ItR B (Itr lo n) O ρ H1 fl (rangeL lo n) := by
  refine ⟨fun O' H i ok hi => by rw [rangeL_len] at hi; exact hi, fun O' H ok => by rw [rangeL_len]; exact Nat.le_refl _, fun O' H i x H' ok hi y => ?_⟩
  rw [rangeL_len] at hi
  obtain ⟨rfl, rfl⟩ := y
  exact ⟨_, rangeL_get n lo i hi, .inl rfl, fun _ => .int _⟩
theorem vi_range1 {tg : Expr} (k : Cok X c C n W) (hg : glB c "range" = true) (hst : noStar a = true) (ha : VE X W a (ev C x)) : VI X W tg (.Call (.Name "range" p2) [a] [] pos) (evI C (.range1 x)) := by
  obtain ⟨g1, g2⟩ := glB_ok k hg
  refine PI.imp (pi_range1 g1 (k.blt _ (by decide)) (pa_cons ha pa_nil (star1 hst)) (star1 hst)) fun σ H R q => ?_
  obtain ⟨O, ρ, env, m, S, h⟩ := q
  rw [evI] at h
  show tV (bsOf X) X.mg W (ev C x) σ H fun v H1 => _
  refine tV.part S h.bind fun p1 m1 v H1 S1 f1 r1 x1 => ?_
  obtain ⟨d, fl⟩ := p1
  cases d with
  | int i =>
    simp only at x1
    split at x1
    · rename_i hz
      simp only [Bool.and_eq_true, decide_eq_true_eq] at hz
      exact ⟨i, by rw [r1.int], by omega, by omega, x1 _ H1 f1 S1.cell (itr_range 0 i.toNat)⟩
    · exact x1.elim
  | _ => exact x1.elim
theorem vi_range2 {tg : Expr} (k : Cok X c C n W) (hg : glB c "range" = true) (hst : noStar a = true) (hst2 : noStar b = true) (ha : VE X W a (ev C x)) (hb : VE X W b (ev C y)) : VI X W tg (.Call (.Name "range" p2) [a, b] [] pos) (evI C (.range2 x y)) := by
  obtain ⟨g1, g2⟩ := glB_ok k hg
  refine PI.imp (pi_range2 g1 (k.blt _ (by decide)) (pa_cons ha (pa_cons hb pa_nil (star1 hst2)) (star_ok hst)) (by rw [star_ok hst, star1 hst2]; rfl) (by rw [star1 hst2]; rfl)) fun σ H R q => ?_
  obtain ⟨O, ρ, env, m, S, h⟩ := q
  rw [evI] at h
  show tV (bsOf X) X.mg W (ev C x) σ H fun v H1 => tV (bsOf X) X.mg W (ev C y) σ H1 fun u H2 => _
  refine tV.part S h.bind fun p1 m1 v H1 S1 f1 r1 x1 => ?_
  refine tV.part S1 (x1.move f1 fun _ _ z => z).bind fun p2 m2 u H2 S2 f2 r2 x2 => ?_
  obtain ⟨d, fl⟩ := p1
  obtain ⟨d2, fl2⟩ := p2
  cases d with
  | int i =>
    cases d2 with
    | int j =>
      simp only at x2
      split at x2
      · rename_i hz
        simp only [Bool.and_eq_true, decide_eq_true_eq] at hz
        refine ⟨i, j, by rw [r1.int, r2.int], ⟨by omega, by omega, by omega, by omega⟩, x2 _ H2 (f1.trans f2) S2.cell (itr_range i (j - i).toNat)⟩
      · exact x2.elim
    | _ => exact x2.elim
  | _ => cases d2 <;> exact x2.elim
theorem enumD_len : ∀ (xs : List PyData) (i : Int), (enumD i xs).length = xs.length
  | [], _ => rfl
  | x :: xs, i => by simp [enumD, enumD_len xs]
theorem enumD_get : ∀ (xs : List PyData) (k : Int) (i : Nat) (x : PyData), xs[i]? = some x → (enumD k xs)[i]? = some [.int (k + i), x]
  | y :: xs, k, 0, x, h => by simp at h; subst h; simp [enumD]
  | y :: xs, k, i + 1, x, h => by
    simp only [enumD, List.getElem?_cons_succ]
    rw [enumD_get xs (k + 1) i x (by simpa using h)]
    congr 3
    push_cast
    omega
theorem vi_enum {es : List Expr} {kk : Nat} {tp : Pos} (k : Cok X c C n W) (hg : glB c "enumerate" = true) (hst : noStar a = true) (ha : VE X W a (ev C x)) : VI X W (.Tuple es kk tp) (.Call (.Name "enumerate" p2) [a] [] pos) (evI C (.enum x)) := by
  obtain ⟨g1, g2⟩ := glB_ok k hg
  refine PI.imp (pi_enum2 g1 (k.blt _ (by decide)) ha (star1 hst)) fun σ H R q => ?_
  obtain ⟨O, ρ, env, m, S, h⟩ := q
  rw [evI] at h
  refine tV.part S h.bind fun p1 m1 v H1 S1 f1 r1 x1 => ?_
  cases e : seqOf p1.1 with
  | none => simp only [e] at x1; exact x1.elim
  | some xs =>
    simp only [e] at x1
    obtain ⟨a, vs, rfl, hv, hs⟩ := seq_st S.hot r1 e
    refine ⟨a, vs, rfl, ?_⟩
    have hl := hv.length
    have hpl : ((enumD 0 xs).map PyData.tuple).length = xs.length := by rw [List.length_map, enumD_len]
    have hu : Rps (bsOf X) O H1 ((List.range xs.length).map fun i => V.int (0 + (i : Nat))) (rangeL 0 xs.length) := rgV_rps xs.length 0
    have hps : ∀ i y x, i < ((enumD 0 xs).map PyData.tuple).length → (rangeL 0 xs.length)[i]? = some y → xs[i]? = some x → ((enumD 0 xs).map PyData.tuple)[i]? = some (.tuple [y, x]) := fun i y x hi h1 h2 => by
      rw [hpl] at hi
      rw [rangeL_get _ _ _ hi] at h1
      cases h1
      rw [List.getElem?_map, enumD_get xs 0 i x h2]
      rfl
    have hui : ∀ i, i < xs.length → ((List.range xs.length).map fun i => V.int (0 + (i : Nat)))[i]? = some (.int (i : Nat)) := fun i hi => by
      rw [List.getElem?_map, List.getElem?_range hi]
      simp
    rcases hs with ⟨_, hs⟩ | ⟨_, hs⟩
    · refine .inl ⟨hs O H1 okH_self, x1 _ H1 f1 S1.cell ?_⟩
      refine itr_pair (fun H2 => SqL X.K H2 a vs) hu hv hs (fun i H2 q hi => ?_) (fun H2 q => ⟨vs, q, by rw [hpl, hl]; exact Nat.le_refl _⟩) hps fun i H2 w H3 q hi y => ?_
      · rw [hpl] at hi
        have hi2 : i < vs.length := by omega
        exact ⟨vs, vs[i], q, by simp [hi2]⟩
      · rw [hpl] at hi
        obtain ⟨T, x, h1, h2, h3, h4⟩ := y
        exact ⟨T, x, _, h1, h2, h3, hui i hi, h4 vs q⟩
    · refine .inr ⟨hs O H1 okH_self, x1 _ H1 f1 S1.cell ?_⟩
      refine itr_pair (fun H2 => SqT X.K H2 a vs) hu hv hs (fun i H2 q hi => ?_) (fun H2 q => ⟨vs, q, by rw [hpl, hl]⟩) hps fun i H2 w H3 q hi y => ?_
      · rw [hpl] at hi
        have hi2 : i < vs.length := by omega
        exact ⟨vs, vs[i], q, by simp [hi2]⟩
      · rw [hpl] at hi
        obtain ⟨T, x, h1, h2, h3, h4⟩ := y
        exact ⟨T, x, _, h1, h2, h3, hui i hi, h4 vs q⟩
end
end Tw
set_option Elab.async false
set_option linter.all false
set_option maxRecDepth 100000
set_option maxHeartbeats 1000000
/-! Comprehensions. -/
namespace Tw
open PySem PySem.Spec PyProof.Rows L2
def W0 : WX := fun _ _ _ _ => False
def blkK (c : Ck) (scope : Scope) : Ck := ⟨c.G, c.N, relS scope c.sc, fun x => scope.names.lookup x == some .cell⟩
section
variable {X : Cx} {W : WX} {c : Ck} {C : Calls} {n : Nat} {e a b d : Expr} {pos p2 : Pos} {x y z : Ex}
theorem cok_blk (k : Cok X c C n W) (s : Shared) (H : Hp) (scope : Scope) (Ca : Addr) (cl : List (Str × Addr)) (fp : List Addr) : Cok (X.blk s H scope (compEnvC scope cl Ca X.env) fp) (blkK c scope) C n W0 where
  hN := k.hN
  hsc := by show relS scope X.env.scope = relS scope c.sc; rw [k.hsc]
  nd := k.nd
  calm := k.calm
  hfn := rfl
  room := k.room
  takes := takes0
  blt := k.blt
  cns := k.cns
  fns := k.fns
end
theorem wipeS_len (env : Ev) : ∀ vs : List Nat, (wipeS env vs).length = env.length
  | [] => rfl
  | v :: vs => by unfold wipeS; rw [List.length_set, wipeS_len env vs]
theorem wipeS_some {env : Ev} {i : Nat} {x : Sl} : ∀ {vs : List Nat}, (wipeS env vs)[i]? = some (some x) → env[i]? = some (some x) ∧ i ∉ vs
  | [], h => ⟨h, by simp⟩
  | v :: vs, h => by
    unfold wipeS at h
    by_cases hi : v = i
    · subst hi
      by_cases hv : v < (wipeS env vs).length
      · rw [List.getElem?_set_self hv] at h; cases h
      · rw [List.getElem?_eq_none (by simpa using hv)] at h; cases h
    · rw [List.getElem?_set_ne hi] at h
      obtain ⟨h1, h2⟩ := wipeS_some h
      exact ⟨h1, by simp only [List.mem_cons, not_or]; exact ⟨fun e => hi e.symm, h2⟩⟩
theorem wipe_get {σ : L2.St} {i : Nat} : ∀ {vs : List Nat}, i ∉ vs → (L2.wipe σ vs)[i]? = σ[i]?
  | [], _ => rfl
  | v :: vs, h => by
    simp only [List.mem_cons, not_or] at h
    unfold L2.wipe
    rw [List.getElem?_set_ne (fun e => h.1 e.symm)]
    exact wipe_get h.2
theorem SR.wipe {B : Bs} {O : Hot} {ρ : Option Addr} {σ : L2.St} {H : Hp} {env : Ev} {m : Mu} (S : SR B O ρ σ H env m) (vs : List Nat) : SR B O ρ (L2.wipe σ vs) H (wipeS env vs) m := by
  refine ⟨S.hot, fun i s e => ?_, S.cell, by rw [wipeS_len, wipe_length]; exact S.len⟩
  obtain ⟨h1, h2⟩ := wipeS_some e
  obtain ⟨v, e1, r⟩ := S.slot i s h1
  exact ⟨v, by rw [wipe_get h2]; exact e1, r⟩
/-- a new list D grows beside -/
theorem SR.beside {B : Bs} {O : Hot} {ρ : Option Addr} {σ : L2.St} {H1 H : Hp} {env : Ev} {m m' : Mu} {D : Addr} {o : HO} (S : SR B O ρ σ H1 env m) (hD : H1 D = none) (f : Fr ρ H1 H) (c : Cell B (fun b => O b ∨ b = D) ρ H m') (hH : H D = some o) :
    SR B (fun b => O b ∨ b = D) ρ σ H env m' := by
  have hρ := S.cell.hρ
  have g : Goes O (fun b => O b ∨ b = D) H1 H := fun b u n r => ⟨f.rd (fun z => n (hρ b z)) r, fun z => z.elim n fun q => Rd.ne r hD q⟩
  refine ⟨fun b h => ?_, fun i s e => ?_, c, S.len⟩
  · rcases h with h | h
    · obtain ⟨o', e⟩ := S.hot b h
      by_cases z : ρ = some b
      · cases m' with
        | none => rw [show ρ = none from c] at z; cases z
        | some cs =>
          obtain ⟨b', q', e', _, h', _⟩ := c
          rw [z] at e'; cases e'
          exact ⟨_, h'⟩
      · exact ⟨o', f b o' z e⟩
    · rw [h]; exact ⟨o, hH⟩
  · obtain ⟨v, e1, r⟩ := S.slot i s e
    refine ⟨v, e1, ?_⟩
    cases s with
    | v d => exact Rp.go g _ _ r
    | o xs => obtain ⟨a, vs, q1, q2, q3, q4, q5⟩ := r; exact ⟨a, vs, q1, .inl q2, q3, f _ _ q3 q4, Rps.go g _ _ q5⟩
    | od kvs => obtain ⟨a, xs, q1, q2, q3, sm, q4, nd, z, q5⟩ := r; exact ⟨a, xs, q1, .inl q2, q3, sm, f _ _ q3 q4, nd, z, Ens.go g _ _ q5⟩
    | cell => exact r
    | scr ns =>
      obtain ⟨q, e, r⟩ := r
      refine ⟨q, e, ?_⟩
      rcases r with ⟨ne, o, h⟩ | h
      · exact .inl ⟨ne, o, f _ _ ne h⟩
      · exact .inr h
theorem Out.noex_ok {α β : Type} {x : Out α} {k : α → Mu → Out β} {r : β} {m : Mu} (h : (x.noex.bind k) = .ok r m) : ∃ a m1, x = .ok a m1 ∧ k a m1 = .ok r m := by
  cases x with
  | ok a m1 => exact ⟨a, m1, rfl, h⟩
  | ex c fs m1 => cases h
  | bad => cases h
theorem Out.bind_ok' {α β : Type} {x : Out α} {k : α → Mu → Out β} {r : β} {m : Mu} (h : (x.bind k) = .ok r m) : ∃ a m1, x = .ok a m1 ∧ k a m1 = .ok r m := by
  cases x with
  | ok a m1 => exact ⟨a, m1, rfl, h⟩
  | ex c fs m1 => cases h
  | bad => cases h
theorem lcLoop_noex (f : PyData → Mu → Out (Option PyData)) : ∀ (xs : List PyData) (m : Mu), (∃ ds m', lcLoop f xs m = .ok ds m') ∨ lcLoop f xs m = .bad
  | [], m => .inl ⟨[], m, rfl⟩
  | x :: xs, m => by
    unfold lcLoop
    cases e : f x m with
    | ex c fs m1 => exact .inr rfl
    | bad => exact .inr rfl
    | ok y m1 =>
      show (∃ ds m', ((lcLoop f xs m1).bind fun ds m => .ok (match y with | some d => d :: ds | none => ds) m) = .ok ds m') ∨ ((lcLoop f xs m1).bind fun ds m => .ok (match y with | some d => d :: ds | none => ds) m) = .bad
      rcases lcLoop_noex f xs m1 with ⟨ds, m2, e2⟩ | e2
      · rw [e2]; exact .inl ⟨_, _, rfl⟩
      · rw [e2]; exact .inr rfl
theorem lcLoop_cons {f : PyData → Mu → Out (Option PyData)} {x : PyData} {xs : List PyData} {m m' : Mu} {rest : List PyData} (h : lcLoop f (x :: xs) m = .ok rest m') :
    ∃ y m1 rest', f x m = .ok y m1 ∧ lcLoop f xs m1 = .ok rest' m' ∧ rest = (match y with | some d => d :: rest' | none => rest') := by
  unfold lcLoop at h
  obtain ⟨y, m1, e1, h⟩ := Out.noex_ok h
  obtain ⟨r, m2, e2, h⟩ := Out.bind_ok' h
  cases h
  exact ⟨y, m1, r, e1, e2, rfl⟩
theorem wipe_idem (τ : L2.St) (own : List Nat) (h : ∀ w ∈ own, ∀ u, τ[w]? ≠ some (some u)) : ∀ ws : List Nat, (∀ i ∈ ws, i ∈ own) → L2.wipe τ ws = τ
  | [], _ => rfl
  | w :: ws, hw => by
    unfold L2.wipe
    rw [wipe_idem τ own h ws fun i hi => hw i (List.mem_cons_of_mem _ hi)]
    refine List.ext_getElem? fun j => ?_
    by_cases hj : w = j
    · subst hj
      by_cases hl : w < τ.length
      · rw [List.getElem?_set_self hl]
        cases q : τ[w]? with
        | none => rw [List.getElem?_eq_none_iff] at q; omega
        | some u =>
          cases u with
          | none => rfl
          | some u => exact absurd q (h w (hw w List.mem_cons_self) u)
      · rw [List.getElem?_eq_none (by rw [List.length_set]; omega), List.getElem?_eq_none (by omega)]
    · rw [List.getElem?_set_ne hj]
/-- the loop of a comprehension -/
theorem lc_main {B : Bs} {J : L2.It} {O : Hot} {ρ : Option Addr} {H1 : Hp} {fl : Fl} {xs : List PyData} {σ : L2.St} {env : Ev} {m : Mu} {tg : Tg} {own : List Nat} {f : PyData → Mu → Out (Option PyData)} {tt : TT} {te : TE} {D : Addr} {Qd : Hp → Prop} {ds : List PyData} {mE : Mu}
    (IT : ItR B J O ρ H1 fl xs) (S : SR B O ρ σ H1 env m) (hD : H1 D = none) (hown : ∀ i ∈ ixG tg, i ∈ own) (hf : lcLoop f xs m = .ok ds mE) (hz : sz ds.length = true)
    (hb : ∀ x mi y m1, f x mi = .ok y m1 → ∃ env', bindG tg (wipeS env own) x = some env')
    (hstep : ∀ (O2 : Hot) (σ2 : L2.St) (H2 : Hp) (env' : Ev) (mi : Mu) (x : PyData) (y : Option PyData) (m1 : Mu) (pS : V → Hp → Prop) (pN : Hp → Prop), SR B O2 ρ σ2 H2 env' mi → bindG tg (wipeS env own) x = some env' → f x mi = .ok y m1 →
      (∀ H' d v, y = some d → Fr ρ H2 H' → Cell B O2 ρ H' m1 → Rp B O2 H' v d → pS v H') → (∀ H', y = none → Fr ρ H2 H' → Cell B O2 ρ H' m1 → pN H') → tt σ2 H2 fun b H3 => if b = true then te σ2 H3 fun v H4 => pS v H4 else pN H3)
    (hd : ∀ H acc, Fr ρ H1 H → Cell B O ρ H mE → H D = some (.lst acc) → Rps B (fun b => O b ∨ b = D) H acc ds → Qd H) :
    ∃ W : Nat → Nat → Hp → Prop, (∃ m, W 0 m (upd H1 D (.lst []))) ∧ ∀ i m H, W i m H →
      (J.stop i H ∧ Qd H) ∨ (J.go i H ∧ ∃ Nx : Hp → Prop, (∀ H', Nx H' → ∃ m', m' < m ∧ W (i + 1) m' H') ∧ ∀ x H', J.yld i H x H' → gB B tg x (L2.wipe σ own) H' fun σ2 H2 => L2.wipe σ2 own = L2.wipe σ own ∧ tt σ2 H2 fun b H3 =>
        if b = true then te σ2 H3 fun y H4 => ∃ acc, H4 D = some (.lst acc) ∧ acc.length < sizeLine ∧ Nx (upd H4 D (.lst (acc ++ [y]))) else Nx H3) := by
  generalize hO2 : (fun b => O b ∨ b = D : Hot) = O2
  have hρ := S.cell.hρ
  have ρD := S.cell.ne hD
  have hO2D : O2 D := by rw [← hO2]; exact .inr rfl
  have hOO2 : ∀ b, O b → O2 b := fun b h => by rw [← hO2]; exact .inl h
  let Pv : Nat → Hp → Prop := fun i H => ∃ mi done rest acc, lcLoop f (xs.drop i) mi = .ok rest mE ∧ ds = done ++ rest ∧ Fr ρ H1 H ∧ Cell B O2 ρ H mi ∧ H D = some (.lst acc) ∧ Rps B O2 H acc done
  have ok : ∀ {H}, Fr ρ H1 H → okH O ρ H1 fl O2 H := fun {H} fr => ⟨fun b o nb e => ⟨fr b o (fun z => nb (hρ b z)) e, fun z => by rw [← hO2] at z; exact z.elim nb fun q => ne_of_none e hD q⟩, fun _ => fr⟩
  refine ⟨fun i n H => n = xs.length - i ∧ i ≤ xs.length ∧ Pv i H, ⟨xs.length, by simp, Nat.zero_le _, m, [], ds, [], by simpa using hf, rfl, .upd hD, ?_, upd_same, .nil⟩, ?_⟩
  · exact (S.cell.new (o := .lst []) hD).hot fun a e => hOO2 a (hρ a e)
  rintro i n H ⟨rfl, hi, mi, done, rest, acc, hl, hds, fr, cl, hacc, hra⟩
  by_cases hlt : i < xs.length
  · refine .inr ⟨IT.go O2 H i (ok fr) hlt, Pv (i + 1), fun H' p' => ⟨xs.length - (i + 1), by omega, rfl, hlt, p'⟩, fun v H' yl => ?_⟩
    obtain ⟨x, ex, hH', rx⟩ := IT.yld O2 H i v H' (ok fr) hlt yl
    have edrop : xs.drop i = x :: xs.drop (i + 1) := by
      rw [List.drop_eq_getElem_cons hlt]
      rw [List.getElem?_eq_getElem hlt] at ex
      cases ex
      rfl
    rw [edrop] at hl
    obtain ⟨yy, m1, rest', ef, er, erest⟩ := lcLoop_cons hl
    obtain ⟨env', eb⟩ := hb x mi yy m1 ef
    -- the state at the turn
    have SB : SR B O2 ρ σ H env mi := by
      have := S.beside hD fr (by rw [hO2]; exact cl) hacc
      rw [hO2] at this
      exact this
    have rx' := rx SB.hot
    have fH : Fr ρ H H' := by
      rcases hH' with rfl | ⟨T, o, hT, rfl⟩
      · exact .refl _ _
      · exact .upd hT
    have cH : Cell B O2 ρ H' mi := by
      rcases hH' with rfl | ⟨T, o, hT, rfl⟩
      · exact cl
      · exact cl.new hT
    have S2 := (SB.step fH cH).wipe own
    have nD : ρ ≠ some D := ρD
    have hacc' : H' D = some (.lst acc) := fH D _ nD hacc
    refine ⟨O2, ρ, wipeS env own, mi, x, env', S2, rx', eb, fun σ2 S3 st => ⟨?_, ?_⟩⟩
    · have := st.wipe own hown
      rw [this]
      exact wipe_idem _ own (fun w hw u q => (wipe_some q).2 hw) own fun i hi => hi
    · refine hstep O2 σ2 H' env' mi x yy m1 _ _ S3 eb ef (fun H4 d w ey f4 c4 r4 => ?_) (fun H4 ey f4 c4 => ?_)
      · subst ey
        have hacc4 : H4 D = some (.lst acc) := f4 D _ nD hacc'
        have g4 : Goes O2 O2 H H4 := (fH.trans f4).goes SB.cell.hρ
        have hra4 := Rps.go g4 _ _ hra
        have hlen : done.length < ds.length := by rw [hds, erest]; simp
        refine ⟨acc, hacc4, by rw [hra4.length]; exact Nat.lt_of_lt_of_le hlen (sz_ok hz), m1, done ++ [d], rest', acc ++ [w], er, by rw [hds, erest]; simp, ?_, ?_, upd_same, ?_⟩
        · intro b o nb e
          rw [upd_ne (ne_of_none e hD)]
          exact (fr.trans (fH.trans f4)) b o nb e
        · cases m1 with
          | none => exact c4
          | some p =>
            obtain ⟨a, q, e1, o, h, sc⟩ := c4
            have : a ≠ D := fun z => nD (by rw [e1, z])
            refine ⟨a, q, e1, o, by rw [upd_ne this]; exact h, ?_⟩
            rcases sc with ⟨o', sc⟩ | sc
            · refine .inl ⟨o', ?_⟩
              have : q ≠ D := fun z => by rw [z, hacc4] at sc; cases sc
              rw [upd_ne this]; exact sc
            · exact .inr sc
        · have gD : Goes O2 O2 H4 (upd H4 D (.lst (acc ++ [w]))) := fun b u nb r => by
            have hbD : b ≠ D := fun z => nb (by rw [z]; exact hO2D)
            refine ⟨?_, nb⟩
            rcases r with r | ⟨o', r⟩
            · exact .inl (by rw [upd_ne hbD]; exact r)
            · exact .inr ⟨o', by rw [upd_ne hbD]; exact r⟩
          exact (Rps.go gD _ _ hra4).append (.cons (Rp.go gD _ _ r4) .nil)
      · subst ey
        have g4 : Goes O2 O2 H H4 := (fH.trans f4).goes SB.cell.hρ
        exact ⟨m1, done, rest', acc, er, by rw [hds, erest], fr.trans (fH.trans f4), c4, f4 D _ nD hacc', Rps.go g4 _ _ hra⟩
  · have e : i = xs.length := by omega
    subst e
    refine .inl ⟨IT.stop O2 H (ok fr), ?_⟩
    rw [List.drop_length] at hl
    unfold lcLoop at hl
    cases hl
    rw [List.append_nil] at hds
    subst hds
    refine hd H acc fr ?_ hacc (by rw [hO2]; exact hra)
    exact cl.hot fun a e => hρ a e
section
variable {X : Cx} {W : WX} {c : Ck} {C : Calls} {n : Nat} {e a b d : Expr} {pos p2 : Pos} {x y z : Ex}
/-- what a comprehension's parts must be -/
structure CompOk (X : Cx) (c : Ck) (C : Calls) (n : Nat) (W : WX) (scope : Scope) (own : List (Str × Nat)) (tgE iterE eltE : Expr) (tg : Tg) (it : It) (elt : Ex) : Prop where
  hit : VI X W tgE iterE (evI C it)
  blk : BlkOk X.N X.env.scope scope own
  htg : ∀ (s : Shared) (H : Hp) (Ca : Addr) (cl : List (Str × Addr)) (fp : List Addr), PG (X.blk s H scope (compEnvC scope cl Ca X.env) fp) tgE (gB (bsOf X) tg)
  helt : ∀ (s : Shared) (H : Hp) (Ca : Addr) (cl : List (Str × Addr)) (fp : List Addr), PE (X.blk s H scope (compEnvC scope cl Ca X.env) fp) eltE (tV (bsOf X) X.mg W0 (ev C elt))
  fold : ∀ x, foldedSetIterable iterE X.env x = pure x
  ixs : ∀ i ∈ ixG tg, i ∈ own.map (·.2)
def cf0 (C : Calls) (elt : Ex) (tg : Tg) (own : List Nat) (env : Ev) : PyData → Mu → Out (Option PyData) := fun x m => match bindG tg (wipeS env own) x with
        | some env' => (ev C elt env' m).bind fun y m => match keepD y with
          | some d => .ok (some d) m
          | none => .bad
        | none => .bad
def cf1 (C : Calls) (elt : Ex) (tg : Tg) (cond : Ex) (own : List Nat) (env : Ev) : PyData → Mu → Out (Option PyData) := fun x m => match bindG tg (wipeS env own) x with
        | some env' => (ev C cond env' m).bind fun c m => match c.1 with
          | .bool true => (ev C elt env' m).bind fun y m => match keepD y with
            | some d => .ok (some d) m
            | none => .bad
          | .bool false => .ok none m
          | _ => .bad
        | none => .bad
theorem elt_step {B : Bs} {mg : Str → Option Value} {O2 : Hot} {ρ : Option Addr} {σ2 : L2.St} {H2 : Hp} {env' : Ev} {mi m1 : Mu} {y : Option PyData} {elt : Ex} {pS : V → Hp → Prop} (S : SR B O2 ρ σ2 H2 env' mi)
    (h : ((ev C elt env' mi).bind fun y m => match keepD y with
          | some d => Out.ok (some d) m
          | none => .bad) = .ok y m1)
    (k : ∀ H' d v, y = some d → Fr ρ H2 H' → Cell B O2 ρ H' m1 → Rp B O2 H' v d → pS v H') : tV B mg W0 (ev C elt) σ2 H2 pS := by
  obtain ⟨p, m2, e1, h⟩ := Out.bind_ok' h
  refine ⟨O2, ρ, env', mi, S, ?_⟩
  rw [e1]
  intro v H' f' c' r'
  cases ek : keepD p with
  | none => rw [ek] at h; cases h
  | some d =>
    rw [ek] at h
    cases h
    have r2 : RF B O2 ρ H2 H' v p.1 p.2 := r'
    obtain ⟨e3, rp⟩ := r2.keep S.hot (show keepD (p.1, p.2) = some d from ek)
    rw [← e3] at rp
    exact k H' d v rfl f' c' rp
theorem comp_end {B : Bs} {mg : Str → Option Value} {O : Hot} {ρ : Option Addr} {σ : L2.St} {H H1 : Hp} {env : Ev} {m m1 : Mu} {ds : List PyData} {mE : Mu} {D : Addr} {Q : VK} (S1 : SR B O ρ σ H1 env m1) (f1 : Fr ρ H H1) (hD : H1 D = none) (hz : sz ds.length = true)
    (x : Vq ⟨B, mg, O, ρ, W⟩ H Q (.list ds, .f) mE) : ∀ H2 acc, Fr ρ H1 H2 → Cell B O ρ H2 mE → H2 D = some (.lst acc) → Rps B (fun b => O b ∨ b = D) H2 acc ds → Q (.ref D) H2 := fun H2 acc f2 c2 e2 k2 => by
  refine x _ H2 (f1.trans f2) c2 ⟨D, rfl, S1.cell.ne hD, ?_, .lst e2 k2⟩
  cases q : H D with
  | none => rfl
  | some o => have := f1 D o (S1.cell.ne hD) q; rw [hD] at this; cases this
theorem tLc_comp0 {tg : Tg} {it : It} {elt : Ex} {own : List Nat} {σ : L2.St} {H : Hp} {Q : VK} (hix : ∀ i ∈ ixG tg, i ∈ own) (q : tV (bsOf X) X.mg W (ev C (.comp0 elt tg it own)) σ H Q) :
    tLc (tI (bsOf X) X.mg W (evI C it)) (gB (bsOf X) tg) tYes (tV (bsOf X) X.mg W0 (ev C elt)) own σ H Q := by
  obtain ⟨O, ρ, env, m, S, h⟩ := q
  rw [ev] at h
  refine ⟨O, ρ, env, m, S, h.bind.mono fun p m1 _ x1 J H1 f1 c1 IT D hD => ?_⟩
  have S1 := S.step f1 c1
  change Pg _ σ H _ ((lcLoop (cf0 C elt tg own env) p.1 m1).bind _) at x1
  rcases lcLoop_noex (cf0 C elt tg own env) p.1 m1 with ⟨ds, mE, e⟩ | e
  · rw [e, Out.bind_ok] at x1
    by_cases hz : sz ds.length = true
    · rw [if_pos hz] at x1
      refine lc_main IT S1 hD hix e hz (fun x mi y m2 hf => ?_) (fun O2 σ2 H2 env' mi x y m2 pS pN S2 hbd hf kS kN => ?_) (comp_end (W := W) (m := m) S1 f1 hD hz x1)
      · unfold cf0 at hf
        cases eb : bindG tg (wipeS env own) x with
        | some env' => exact ⟨env', rfl⟩
        | none => rw [eb] at hf; cases hf
      · unfold cf0 at hf
        rw [hbd] at hf
        exact elt_step S2 hf kS
    · rw [if_neg hz] at x1; exact x1.elim
  · rw [e] at x1; exact x1.elim
theorem tLc_comp1 {tg : Tg} {it : It} {elt cond : Ex} {own : List Nat} {σ : L2.St} {H : Hp} {Q : VK} (hix : ∀ i ∈ ixG tg, i ∈ own) (q : tV (bsOf X) X.mg W (ev C (.comp1 elt tg it cond own)) σ H Q) :
    tLc (tI (bsOf X) X.mg W (evI C it)) (gB (bsOf X) tg) (tT (bsOf X) X.mg W0 (ev C cond)) (tV (bsOf X) X.mg W0 (ev C elt)) own σ H Q := by
  obtain ⟨O, ρ, env, m, S, h⟩ := q
  rw [ev] at h
  refine ⟨O, ρ, env, m, S, h.bind.mono fun p m1 _ x1 J H1 f1 c1 IT D hD => ?_⟩
  have S1 := S.step f1 c1
  change Pg _ σ H _ ((lcLoop (cf1 C elt tg cond own env) p.1 m1).bind _) at x1
  rcases lcLoop_noex (cf1 C elt tg cond own env) p.1 m1 with ⟨ds, mE, e⟩ | e
  · rw [e, Out.bind_ok] at x1
    by_cases hz : sz ds.length = true
    · rw [if_pos hz] at x1
      refine lc_main IT S1 hD hix e hz (fun x mi y m2 hf => ?_) (fun O2 σ2 H2 env' mi x y m2 pS pN S2 hbd hf kS kN => ?_) (comp_end (W := W) (m := m) S1 f1 hD hz x1)
      · unfold cf1 at hf
        cases eb : bindG tg (wipeS env own) x with
        | some env' => exact ⟨env', rfl⟩
        | none => rw [eb] at hf; cases hf
      · unfold cf1 at hf
        rw [hbd] at hf
        simp only at hf
        obtain ⟨pc, m3, e1, hf⟩ := Out.bind_ok' hf
        refine ⟨O2, ρ, env', mi, S2, ?_⟩
        rw [e1]
        show Tq _ _ _ pc m3
        obtain ⟨dc, flc⟩ := pc
        cases dc with
        | bool t =>
          refine ⟨t, rfl, fun H3 f3 c3 => ?_⟩
          have S3 := S2.step f3 c3
          cases t with
          | true =>
            show tV (bsOf X) X.mg W0 (ev C elt) σ2 H3 _
            exact elt_step S3 hf fun H' d v ey f4 c4 r4 => kS H' d v ey (f3.trans f4) c4 r4
          | false =>
            cases hf
            show pN H3
            exact kN H3 rfl f3 c3
        | _ => cases hf
    · rw [if_neg hz] at x1; exact x1.elim
  · rw [e] at x1; exact x1.elim
theorem ve_comp0 {scope : Scope} {own : List (Str × Nat)} {tgE iterE eltE : Expr} {tg : Tg} {it : It} {elt : Ex} (k : Cok X c C n W) (K : CompOk X c C n W scope own tgE iterE eltE tg it elt) :
    VE X W (.ListComp eltE [⟨tgE, iterE, [], 0⟩] scope pos) (ev C (.comp0 elt tg it (own.map (·.2)))) :=
  PE.imp (pe_lc k.calm (nd_of k) K.hit K.blk K.htg (fun s H Ca cl fp => pts_nil) K.helt K.fold) fun σ H Q q => tLc_comp0 K.ixs q
theorem ve_comp1 {scope : Scope} {own : List (Str × Nat)} {tgE iterE eltE condE : Expr} {tg : Tg} {it : It} {elt cond : Ex} (k : Cok X c C n W) (K : CompOk X c C n W scope own tgE iterE eltE tg it elt)
    (hc : ∀ (s : Shared) (H : Hp) (Ca : Addr) (cl : List (Str × Addr)) (fp : List Addr), PT (X.blk s H scope (compEnvC scope cl Ca X.env) fp) condE (tT (bsOf X) X.mg W0 (ev C cond))) :
    VE X W (.ListComp eltE [⟨tgE, iterE, [condE], 0⟩] scope pos) (ev C (.comp1 elt tg it cond (own.map (·.2)))) :=
  PE.imp (pe_lc k.calm (nd_of k) K.hit K.blk K.htg (fun s H Ca cl fp => pts_one (hc s H Ca cl fp)) K.helt K.fold) fun σ H Q q => tLc_comp1 K.ixs q
end
end Tw
set_option Elab.async false
set_option linter.all false
set_option maxRecDepth 100000
set_option maxHeartbeats 1000000
/-! Statements. -/
namespace Tw
open PySem PySem.Spec PyProof.Rows L2
structure Ss (B : Bs) (Old : Addr → Prop) (O : Hot) (ρ : Option Addr) (σ : L2.St) (H : Hp) (env : Ev) (m : Mu) : Prop where
  sr : SR B O ρ σ H env m
  own : Own Old σ env
  trk : ∀ b, Old b → ∃ o, H b = some o
structure Mv (Old : Addr → Prop) (O : Hot) (ρ : Option Addr) (H : Hp) (O' : Hot) (ρ' : Option Addr) (H' : Hp) : Prop where
  cold : GoesE O O' H H'
  old : ∀ b o, Old b → ρ ≠ some b → H b = some o → H' b = some o
  hot : ∀ b, Old b → (O' b ↔ O b)
  rho : ρ' = ρ ∨ (ρ = none ∧ ∀ a, ρ' = some a → ¬ Old a)
section
variable {B : Bs} {mg : Str → Option Value} {W : WX} {Old : Addr → Prop} {O O1 O2 : Hot} {ρ ρ1 ρ2 : Option Addr} {σ σ1 : L2.St} {H H1 H2 : Hp} {env : Ev} {m m1 : Mu}
theorem Mv.refl : Mv Old O ρ H O ρ H := ⟨fun _ _ n e => ⟨e, n⟩, fun _ _ _ _ e => e, fun _ _ => Iff.rfl, .inl rfl⟩
theorem Mv.trans (a : Mv Old O ρ H O1 ρ1 H1) (b : Mv Old O1 ρ1 H1 O2 ρ2 H2) : Mv Old O ρ H O2 ρ2 H2 := by
  refine ⟨fun c o n e => b.cold c o (a.cold c o n e).2 (a.cold c o n e).1, fun c o old ne e => ?_, fun c old => (b.hot c old).trans (a.hot c old), ?_⟩
  · refine b.old c o old ?_ (a.old c o old ne e)
    rcases a.rho with h | ⟨h, k⟩
    · rw [h]; exact ne
    · exact fun z => k c z old
  · rcases a.rho with h | ⟨h, k⟩
    · rcases b.rho with h2 | ⟨h2, k2⟩
      · exact .inl (h2.trans h)
      · exact .inr ⟨h ▸ h2, k2⟩
    · rcases b.rho with h2 | ⟨h2, k2⟩
      · exact .inr ⟨h, fun a e => k a (h2 ▸ e)⟩
      · exact .inr ⟨h, k2⟩
theorem Fr.goesE (f : Fr ρ H H1) (hρ : ∀ a, ρ = some a → O a) : GoesE O O H H1 := fun b o n e => ⟨f b o (fun z => n (hρ b z)) e, n⟩
theorem Mv.of_fr (f : Fr ρ H H1) (hρ : ∀ a, ρ = some a → O a) : Mv Old O ρ H O ρ H1 := ⟨f.goesE hρ, fun b o _ ne e => f b o ne e, fun _ _ => Iff.rfl, .inl rfl⟩
theorem Ss.step (S : Ss B Old O ρ σ H env m) (f : Fr ρ H H1) (c : Cell B O ρ H1 m1) : Ss B Old O ρ σ H1 env m1 := by
  refine ⟨S.sr.step f c, S.own, fun b h => ?_⟩
  obtain ⟨o, e⟩ := S.trk b h
  by_cases z : ρ = some b
  · cases m1 with
    | none => rw [show ρ = none from c] at z; cases z
    | some p => obtain ⟨a, q, e1, _, h1, _⟩ := c; rw [z] at e1; cases e1; exact ⟨_, h1⟩
  · exact ⟨o, f b o z e⟩
/-- what a statement's end asks -/
def PgS (B : Bs) (mg : Str → Option Value) (W : WX) (Old : Addr → Prop) (O : Hot) (ρ : Option Addr) (H : Hp) (D : Ends) : Out (Flo × Ev) → Prop
  | .ok (.next, env') m' => ∀ O' ρ' σ' H', Ss B Old O' ρ' σ' H' env' m' → Mv Old O ρ H O' ρ' H' → D.nx σ' H'
  | .ok (.brk, env') m' => ∀ O' ρ' σ' H', Ss B Old O' ρ' σ' H' env' m' → Mv Old O ρ H O' ρ' H' → D.bk σ' H'
  | .ok (.ret d, _) m' => ∀ O' ρ' H' v, Cell B O' ρ' H' m' → (∀ a, O' a → ∃ o, H' a = some o) → Mv Old O ρ H O' ρ' H' → Rp B O' H' v d → D.rt v H'
  | .ex c fs m' => ∀ cls d O' ρ' σ' H', Cell B O' ρ' H' m' → Mv Old O ρ H O' ρ' H' → XR B mg H' cls d c fs → W cls d σ' H'
  | .bad => False
theorem PgS.move {D : Ends} {x : Out (Flo × Ev)} (v : Mv Old O ρ H O1 ρ1 H1) (h : PgS B mg W Old O ρ H D x) : PgS B mg W Old O1 ρ1 H1 D x := by
  cases x with
  | ok p m' =>
    obtain ⟨f, env'⟩ := p
    cases f with
    | next => exact fun O' ρ' σ' H' S w => h O' ρ' σ' H' S (v.trans w)
    | brk => exact fun O' ρ' σ' H' S w => h O' ρ' σ' H' S (v.trans w)
    | ret d => exact fun O' ρ' H' u c t w r => h O' ρ' H' u c t (v.trans w) r
  | ex c fs m' => exact fun cls d O' ρ' σ' H' c w x => h cls d O' ρ' σ' H' c (v.trans w) x
  | bad => exact h
/-- its first expression -/
theorem PgS.expr {α : Type} {D : Ends} {x : Out α} {k : α → Mu → Out (Flo × Ev)} (S : Ss B Old O ρ σ H env m) (h : PgS B mg W Old O ρ H D (x.bind k)) : Pg ⟨B, mg, O, ρ, W⟩ σ H (fun a m' => PgS B mg W Old O ρ H D (k a m')) x := by
  cases x with
  | ok a m' => exact h
  | ex c fs m' => exact fun cls d H' f c xr => h cls d O ρ σ H' c (.of_fr f S.sr.cell.hρ) xr
  | bad => exact h
/-- its first statement -/
theorem PgS.stmt {D : Ends} {x : Out (Flo × Ev)} {k : Ev → Mu → Out (Flo × Ev)} (h : PgS B mg W Old O ρ H D (x.bind fun p m => match p.1 with | .next => k p.2 m | _ => .ok p m)) :
    PgS B mg W Old O ρ H { D with nx := fun σ' H' => ∃ O' ρ' env' m', Ss B Old O' ρ' σ' H' env' m' ∧ PgS B mg W Old O' ρ' H' D (k env' m') } x := by
  cases x with
  | ok p m' =>
    obtain ⟨f, env'⟩ := p
    cases f with
    | next => exact fun O' ρ' σ' H' S w => ⟨O', ρ', env', m', S, PgS.move w h⟩
    | brk => exact h
    | ret d => exact h
  | ex c fs m' => exact h
  | bad => exact h
end
def tS (B : Bs) (mg : Str → Option Value) (W : WX) (Old : Addr → Prop) (f : Ev → Mu → Out (Flo × Ev)) : TS := fun D σ H => ∃ O ρ env m, Ss B Old O ρ σ H env m ∧ PgS B mg W Old O ρ H D (f env m)
def VS (X : Cx) (W : WX) (Old : Addr → Prop) (st : Stmt) (f : Ev → Mu → Out (Flo × Ev)) : Prop := PS X st (tS (bsOf X) X.mg W Old f)
def VSs (X : Cx) (W : WX) (Old : Addr → Prop) (st : List Stmt) (f : Ev → Mu → Out (Flo × Ev)) : Prop := PSs X st (tS (bsOf X) X.mg W Old f)
theorem PS.imp {X : Cx} {e : Stmt} {t t' : TS} (h : PS X e t) (k : ∀ D σ H, t' D σ H → t D σ H) : PS X e t' := ⟨fun pins s σ H D I q => h.run pins s σ H D I (k D σ H q)⟩
theorem PSs.imp {X : Cx} {e : List Stmt} {t t' : TS} (h : PSs X e t) (k : ∀ D σ H, t' D σ H → t D σ H) : PSs X e t' := ⟨fun pins s σ H D I q => h.run pins s σ H D I (k D σ H q)⟩
section
variable {B : Bs} {mg : Str → Option Value} {W : WX} {Old : Addr → Prop} {O : Hot} {ρ : Option Addr} {σ : L2.St} {H H1 : Hp} {env : Ev} {m m1 : Mu}
def slV (p : PyData × Fl) : Option Sl := match p.2, p.1 with
  | .f, .list xs => some (.o xs)
  | .f, .dict kvs => some (.od kvs)
  | .b, _ => none
  | _, d => some (.v d)
theorem setV_sl {i : Nat} {p : PyData × Fl} : setV env i p = (slV p).map (setS env i) := by
  obtain ⟨d, fl⟩ := p
  cases fl <;> cases d <;> rfl
/-- a value that a name will own, if it is new -/
theorem take {O : Hot} {v : V} {p : PyData × Fl} {s : Sl} (S : Ss B Old O ρ σ H env m) (f : Fr ρ H H1) (c : Cell B O ρ H1 m1) (r : RF B O ρ H H1 v p.1 p.2) (e : slV p = some s) :
    ∃ O', (∀ b, O b → O' b) ∧ Ss B Old O' ρ σ H1 env m1 ∧ SlR B O' ρ H1 v s ∧ Mv Old O ρ H O' ρ H1 ∧ (isOwn s = true → ∃ a, v = .ref a ∧ H a = none ∧ H1 a ≠ none) := by
  have plain : ∀ d, s = .v d → Rp B O H1 v d → ∃ O', (∀ b, O b → O' b) ∧ Ss B Old O' ρ σ H1 env m1 ∧ SlR B O' ρ H1 v s ∧ Mv Old O ρ H O' ρ H1 ∧ (isOwn s = true → ∃ a, v = .ref a ∧ H a = none ∧ H1 a ≠ none) := fun d es r => by
    subst es
    exact ⟨O, fun _ h => h, S.step f c, r, .of_fr f S.sr.cell.hρ, fun z => by cases z⟩
  obtain ⟨d, fl⟩ := p
  cases fl with
  | b => cases d <;> cases e
  | c =>
    have e' : s = .v d := by cases d <;> (cases e; rfl)
    exact plain d e' r
  | f =>
    obtain ⟨a, rfl, ne, n0, k⟩ := r
    have hc2 : Cell B (fun b => O b ∨ b = a) ρ H1 m1 := c.hot fun b e => .inl (S.sr.cell.hρ b e)
    have core : ∀ o, H1 a = some o → Ss B Old (fun b => O b ∨ b = a) ρ σ H1 env m1 ∧ Mv Old O ρ H (fun b => O b ∨ b = a) ρ H1 := fun o ha => by
      refine ⟨⟨S.sr.beside n0 f hc2 ha, S.own, (S.step f c).trk⟩, ⟨fun b o' nb e => ⟨(f.goesE S.sr.cell.hρ b o' nb e).1, fun z => z.elim nb fun q => ne_of_none e n0 q⟩, fun b o' _ ne e => f b o' ne e, fun b old => ⟨fun z => z.elim id fun q => ?_, .inl⟩, .inl rfl⟩⟩
      obtain ⟨o2, e2⟩ := S.trk b old
      rw [q, n0] at e2; cases e2
    cases k with
    | @lst vs xs h k =>
      cases e
      obtain ⟨h1, h2⟩ := core _ h
      exact ⟨_, fun _ => .inl, h1, ⟨a, vs, rfl, .inr rfl, ne, h, k⟩, h2, fun _ => ⟨a, rfl, n0, by rw [h]; simp⟩⟩
    | @dic xs kvs sm h nd z k =>
      cases e
      obtain ⟨h1, h2⟩ := core _ h
      exact ⟨_, fun _ => .inl, h1, ⟨a, xs, rfl, .inr rfl, ne, sm, h, nd, z, k⟩, h2, fun _ => ⟨a, rfl, n0, by rw [h]; simp⟩⟩
theorem SR.ownTr (S : SR B O ρ σ H env m) {j : Nat} {t : Sl} {a : Addr} (e : env[j]? = some (some t)) (o : isOwn t = true) (es : σ[j]? = some (some (.ref a))) : ∃ o, H a = some o := by
  obtain ⟨v, e1, r⟩ := S.slot j t e
  rw [es] at e1; cases e1
  cases t with
  | o xs => obtain ⟨a', vs, q, _, _, h, _⟩ := r; cases q; exact ⟨_, h⟩
  | od kvs => obtain ⟨a', vs, q, _, _, _, h, _⟩ := r; cases q; exact ⟨_, h⟩
  | _ => cases o
/-- a slot is stored -/
theorem Ss.put {i : Nat} {v : V} {s : Sl} (S : Ss B Old O ρ σ H env m) (r : SlR B O ρ H v s) (k : isOwn s = true → ∃ a, v = .ref a ∧ ¬ Old a ∧ ∀ j t, env[j]? = some (some t) → isOwn t = true → j ≠ i → σ[j]? ≠ some (some (.ref a))) :
    Ss B Old O ρ (σ.set i (some v)) H (setS env i s) m := by
  refine ⟨S.sr.set r, ⟨fun j t a h1 h2 h3 => ?_, fun j l t u a hjl h1 h2 h3 h4 h5 h6 => ?_⟩, S.trk⟩
  · unfold setS at h1
    by_cases hj : i = j
    · subst hj
      have hl : i < env.length := by
        rcases Nat.lt_or_ge i env.length with h | h
        · exact h
        · rw [List.getElem?_eq_none (by rw [List.length_set]; exact h)] at h1; cases h1
      rw [List.getElem?_set_self hl] at h1
      cases h1
      obtain ⟨a', ev, no, _⟩ := k h2
      rw [List.getElem?_set_self (Nat.lt_of_lt_of_le hl S.sr.len), ev] at h3
      cases h3
      exact no
    · rw [List.getElem?_set_ne hj] at h1 h3
      exact S.own.new j t a h1 h2 h3
  · unfold setS at h1 h3
    by_cases hj : i = j
    · subst hj
      have hl : i < env.length := by
        rcases Nat.lt_or_ge i env.length with h | h
        · exact h
        · rw [List.getElem?_eq_none (by rw [List.length_set]; exact h)] at h1; cases h1
      rw [List.getElem?_set_self hl] at h1
      cases h1
      obtain ⟨a', ev, no, ap⟩ := k h2
      rw [List.getElem?_set_self (Nat.lt_of_lt_of_le hl S.sr.len), ev] at h5
      cases h5
      rw [List.getElem?_set_ne hjl] at h3 h6
      exact ap l u h3 h4 (Ne.symm hjl) h6
    · rw [List.getElem?_set_ne hj] at h1 h5
      by_cases hl2 : i = l
      · subst hl2
        have hl : i < env.length := by
          rcases Nat.lt_or_ge i env.length with h | h
          · exact h
          · rw [List.getElem?_eq_none (by rw [List.length_set]; exact h)] at h3; cases h3
        rw [List.getElem?_set_self hl] at h3
        cases h3
        obtain ⟨a', ev, no, ap⟩ := k h4
        rw [List.getElem?_set_self (Nat.lt_of_lt_of_le hl S.sr.len), ev] at h6
        cases h6
        exact ap j t h1 h2 hjl h5
      · rw [List.getElem?_set_ne hl2] at h3 h6
        exact S.own.apart j l t u a hjl h1 h2 h3 h4 h5 h6
end
section
variable {X : Cx} {W : WX} {Old : Addr → Prop} {c : Ck} {C : Calls} {F : Nat} {n : Nat} {e a b d : Expr} {pos p2 : Pos} {x y z : Ex} {st : Stmt} {rest : List Stmt}
theorem vss_nil : VSs X W Old [] (exs C F .nil) := PSs.imp pss_nil fun D σ H q => by
  obtain ⟨O, ρ, env, m, S, h⟩ := q
  rw [exs] at h
  exact h O ρ σ H S .refl
theorem vss_cons {s : Sm} {r : Sms} (h1 : VS X W Old st (ex C F s)) (h2 : VSs X W Old rest (exs C F r)) : VSs X W Old (st :: rest) (exs C F (.cons s r)) := PSs.imp (pss_cons h1 h2) fun D σ H q => by
  obtain ⟨O, ρ, env, m, S, h⟩ := q
  rw [exs] at h
  exact ⟨O, ρ, env, m, S, PgS.stmt h⟩
theorem getS_set {env : Ev} {i : Nat} {s : Sl} (h : getS env i = some s) : env[i]? = some (some s) := getS_some h
theorem freeze_ok {B : Bs} {O : Hot} {ρ : Option Addr} {σ : L2.St} {H : Hp} {env : Ev} {m : Mu} {i : Nat} {s : Sl} {a : Addr} {d : PyData} (S : Ss B Old O ρ σ H env m) (e : env[i]? = some (some s)) (ho : isOwn s = true) (hs : σ[i]? = some (some (.ref a))) (ne : ρ ≠ some a)
    (hr : Rp B (fun b => O b ∧ b ≠ a) H (.ref a) d) : Ss B Old (fun b => O b ∧ b ≠ a) ρ σ H (setS env i (.v d)) m ∧ Mv Old O ρ H (fun b => O b ∧ b ≠ a) ρ H := by
  have g : Goes O (fun b => O b ∧ b ≠ a) H H := fun b u n r => ⟨r, fun z => n z.1⟩
  have na := S.own.new i s a e ho hs
  refine ⟨⟨⟨fun b h => S.sr.hot b h.1, fun j t h => ?_, S.sr.cell.hot fun b hb => ⟨S.sr.cell.hρ b hb, fun z => ne (by rw [hb, z])⟩, by unfold setS; rw [List.length_set]; exact S.sr.len⟩, ⟨fun j t b h1 h2 h3 => ?_, fun j l t u b hjl h1 h2 h3 h4 => ?_⟩, S.trk⟩, ⟨fun b o n e => ⟨e, fun z => n z.1⟩, fun _ _ _ _ e => e, fun b old => ⟨fun z => z.1, fun z => ⟨z, fun q => na (q ▸ old)⟩⟩, .inl rfl⟩⟩
  · unfold setS at h
    by_cases hj : i = j
    · subst hj
      have hl := (List.getElem?_eq_some_iff.mp e).1
      rw [List.getElem?_set_self hl] at h
      cases h
      exact ⟨_, hs, hr⟩
    · rw [List.getElem?_set_ne hj] at h
      obtain ⟨v, e1, r⟩ := S.sr.slot j t h
      refine ⟨v, e1, ?_⟩
      cases t with
      | v d => exact Rp.go g _ _ r
      | o xs =>
        obtain ⟨a', vs, q1, q2, q3, q4, q5⟩ := r
        subst q1
        exact ⟨a', vs, rfl, ⟨q2, fun z => S.own.apart i j s _ a hj e ho h rfl hs (z ▸ e1)⟩, q3, q4, Rps.go g _ _ q5⟩
      | od kvs =>
        obtain ⟨a', vs, q1, q2, q3, sm, q4, nd, z, q5⟩ := r
        subst q1
        exact ⟨a', vs, rfl, ⟨q2, fun z => S.own.apart i j s _ a hj e ho h rfl hs (z ▸ e1)⟩, q3, sm, q4, nd, z, Ens.go g _ _ q5⟩
      | cell => exact r
      | scr ns => exact r
  · unfold setS at h1
    by_cases hj : i = j
    · subst hj
      have hl := (List.getElem?_eq_some_iff.mp e).1
      rw [List.getElem?_set_self hl] at h1
      cases h1; cases h2
    · rw [List.getElem?_set_ne hj] at h1
      exact S.own.new j t b h1 h2 h3
  · have key : ∀ (q : Nat) (w : Sl), (setS env i (.v d))[q]? = some (some w) → isOwn w = true → env[q]? = some (some w) := fun q w hq ow => by
      unfold setS at hq
      by_cases hj : i = q
      · subst hj
        have hl := (List.getElem?_eq_some_iff.mp e).1
        rw [List.getElem?_set_self hl] at hq
        cases hq; cases ow
      · rw [List.getElem?_set_ne hj] at hq
        exact hq
    exact S.own.apart j l t u b hjl (key j t h1 h2) h2 (key l u h3 h4) h4
/-- the ghost -/
theorem vss_freeze {i : Nat} {r : Sms} (h2 : VSs X W Old rest (exs C F r)) : VSs X W Old rest (exs C F (.cons (.freeze i) r)) := PSs.imp h2 fun D σ H q => by
  obtain ⟨O, ρ, env, m, S, h⟩ := q
  rw [exs, ex] at h
  cases e : getS env i with
  | none => simp only [e, Out.bind_ok] at h; exact ⟨O, ρ, env, m, S, h⟩
  | some s =>
    obtain ⟨v, hv, r0⟩ := S.sr.slot i s (getS_some e)
    cases s with
    | cell => simp only [e, Out.bind_ok] at h; exact ⟨O, ρ, env, m, S, h⟩
    | scr ns => simp only [e, Out.bind_ok] at h; exact ⟨O, ρ, env, m, S, h⟩
    | v d =>
      simp only [e, Out.bind_ok, slD] at h
      have : setS env i (.v d) = env := by
        unfold setS
        refine List.ext_getElem? fun j => ?_
        by_cases hj : i = j
        · subst hj
          have hl := (List.getElem?_eq_some_iff.mp (getS_some e)).1
          rw [List.getElem?_set_self hl, getS_some e]
        · rw [List.getElem?_set_ne hj]
      rw [this] at h
      exact ⟨O, ρ, env, m, S, h⟩
    | o xs =>
      simp only [e, Out.bind_ok, slD] at h
      obtain ⟨a, vs, rfl, ho, ne, ha, k⟩ := r0
      have g : Goes O (fun b => O b ∧ b ≠ a) H H := fun b u n r => ⟨r, fun z => n z.1⟩
      obtain ⟨S2, w⟩ := freeze_ok (d := .list xs) S (getS_some e) rfl hv ne (.lst (fun z => z.2 rfl) (.inl ha) (Rps.go g _ _ k))
      exact ⟨_, ρ, _, m, S2, PgS.move w h⟩
    | od kvs =>
      simp only [e, Out.bind_ok, slD] at h
      obtain ⟨a, vs, rfl, ho, ne, sm, ha, nd, z, k⟩ := r0
      have g : Goes O (fun b => O b ∧ b ≠ a) H H := fun b u n r => ⟨r, fun z => n z.1⟩
      obtain ⟨S2, w⟩ := freeze_ok (d := .dict kvs) S (getS_some e) rfl hv ne (.dic (fun z => z.2 rfl) sm (.inl ha) nd z (Ens.go g _ _ k))
      exact ⟨_, ρ, _, m, S2, PgS.move w h⟩
/-! ### name = e -/
theorem tAsg_set {i : Nat} {D : Ends} {σ : L2.St} {H : Hp} (q : tS (bsOf X) X.mg W Old (ex C F (.set i x)) D σ H) : tAsg (tV (bsOf X) X.mg W (ev C x)) (gName i) D σ H := by
  obtain ⟨O, ρ, env, m, S, h⟩ := q
  rw [ex] at h
  refine tV.part S.sr (PgS.expr S h) fun p m1 v H1 S1 f1 r1 x1 => ?_
  show D.nx (σ.set i (some v)) H1
  rw [setV_sl] at x1
  cases e : slV p with
  | none => rw [e] at x1; exact x1.elim
  | some s =>
    rw [e] at x1
    obtain ⟨O', _, S2, r2, w, k⟩ := take S f1 S1.cell r1 e
    refine x1 O' ρ _ H1 (S2.put r2 fun hs => ?_) w
    obtain ⟨a, ev, n0, _⟩ := k hs
    refine ⟨a, ev, fun old => ?_, fun j t h1 h2 _ h3 => ?_⟩
    · obtain ⟨o, q⟩ := S.trk a old; rw [n0] at q; cases q
    · obtain ⟨o, q⟩ := S.sr.ownTr h1 h2 h3; rw [n0] at q; cases q
theorem vs_set {i : Nat} {xx : Str} (k : Cok X c C n W) (hl : locB c i xx = true) (hs : swapsWith e (some (.Name xx p2)) pos.line X.env = pure false) (he : VE X W e (ev C x)) : VS X W Old (.Assign [.Name xx p2] e pos) (ex C F (.set i x)) := by
  obtain ⟨h1, h2, h3⟩ := locB_ok k hl
  exact PS.imp (ps_set (nd_of k) h1 h2 he hs h3) fun D σ H q => tAsg_set q
/-! ### a, b = e -/
theorem vs_setT {es : List Expr} {kk : Nat} {tp : Pos} {ts : Tgs} (k : Cok X c C n W) (hg : PG X (.Tuple es kk tp) (gB (bsOf X) (.t ts))) (hs : swapsWithSole [.Tuple es kk tp] e pos.line X.env = pure false) (hw : swappedStores [.Tuple es kk tp] e X.env = pure none)
    (h1 : (assignEach [.Tuple es kk tp] X.env).map (·.2) = [assign (.Tuple es kk tp) X.env]) (he : VE X W e (ev C x)) : VS X W Old (.Assign [.Tuple es kk tp] e pos) (ex C F (.setT ts x)) := PS.imp (ps_asg he hg hs hw h1) fun D σ H q => by
  obtain ⟨O, ρ, env, m, S, h⟩ := q
  rw [ex] at h
  refine tV.part S.sr (PgS.expr S h) fun p m1 v H1 S1 f1 r1 x1 => ?_
  cases ek : keepD p with
  | none => simp only [ek] at x1; exact x1.elim
  | some dd =>
    simp only [ek] at x1
    have r1' : RF (bsOf X) O ρ H H1 v p.1 p.2 := r1
    obtain ⟨e3, rp⟩ := r1'.keep S.sr.hot (show keepD (p.1, p.2) = some dd from ek)
    rw [← e3] at rp
    cases dd with
    | tuple xs =>
      simp only at x1
      cases eb : bindGs ts env xs with
      | none => simp only [eb] at x1; exact x1.elim
      | some env' =>
        simp only [eb] at x1
        refine ⟨O, ρ, env, m1, .tuple xs, env', S1, rp, by rw [bindG]; exact eb, fun σ' S2 sto => ?_⟩
        exact x1 O ρ σ' H1 ⟨S2, sto.own S.own, (S.step f1 S1.cell).trk⟩ (.of_fr f1 S.sr.cell.hρ)
    | _ => exact x1.elim
/-! ### return, an expression, break -/
theorem vs_ret (he : VE X W e (ev C x)) : VS X W Old (.Return (some e) pos) (ex C F (.ret x)) := PS.imp (ps_ret he) fun D σ H q => by
  obtain ⟨O, ρ, env, m, S, h⟩ := q
  rw [ex] at h
  refine tV.part S.sr (PgS.expr S h) fun p m1 v H1 S1 f1 r1 x1 => ?_
  cases ek : keepD p with
  | none => simp only [ek] at x1; exact x1.elim
  | some dd =>
    simp only [ek] at x1
    have r1' : RF (bsOf X) O ρ H H1 v p.1 p.2 := r1
    obtain ⟨e3, rp⟩ := r1'.keep S.sr.hot (show keepD (p.1, p.2) = some dd from ek)
    rw [← e3] at rp
    exact x1 O ρ H1 v S1.cell S1.hot (.of_fr f1 S.sr.cell.hρ) rp
theorem vs_expr (hs : swapsWith e none pos.line X.env = pure false) (he : VE X W e (ev C x)) : VS X W Old (.Expr e pos) (ex C F (.expr x)) := PS.imp (ps_expr he hs) fun D σ H q => by
  obtain ⟨O, ρ, env, m, S, h⟩ := q
  rw [ex] at h
  refine tV.part S.sr (PgS.expr S h) fun p m1 v H1 S1 f1 r1 x1 => ?_
  exact x1 O ρ σ H1 (S.step f1 S1.cell) (.of_fr f1 S.sr.cell.hρ)
theorem vs_brk : VS X W Old (.Break pos) (ex C F .brk) := PS.imp ps_break fun D σ H q => by
  obtain ⟨O, ρ, env, m, S, h⟩ := q
  rw [ex] at h
  exact h O ρ σ H S .refl
theorem vs_if {sa sb : List Stmt} {ta tb : Sms} (hc : VT X W e (ev C x)) (ha : VSs X W Old sa (exs C F ta)) (hb : VSs X W Old sb (exs C F tb)) : VS X W Old (.If e sa sb pos) (ex C F (.ifs x ta tb)) := PS.imp (ps_if hc ha hb) fun D σ H q => by
  obtain ⟨O, ρ, env, m, S, h⟩ := q
  rw [ex] at h
  refine ⟨O, ρ, env, m, S.sr, (PgS.expr S h).mono fun p m1 _ x1 => ?_⟩
  obtain ⟨dd, fl⟩ := p
  cases dd with
  | bool t =>
    refine ⟨t, rfl, fun H1 f1 c1 => ?_⟩
    have w : Mv Old O ρ H O ρ H1 := .of_fr f1 S.sr.cell.hρ
    cases t with
    | true => exact ⟨O, ρ, env, m1, S.step f1 c1, PgS.move w x1⟩
    | false => exact ⟨O, ρ, env, m1, S.step f1 c1, PgS.move w x1⟩
  | _ => exact x1.elim
end
end Tw
set_option Elab.async false
set_option linter.all false
set_option maxRecDepth 100000
set_option maxHeartbeats 1000000
/-! Statements: loops, lists, dicts, pairs, the cell. -/
namespace Tw
open PySem PySem.Spec PyProof.Rows L2
section
variable {X : Cx} {W : WX} {Old : Addr → Prop} {c : Ck} {C : Calls} {F : Nat} {n : Nat} {e a b d : Expr} {pos p2 : Pos} {x y z : Ex} {st : Stmt} {rest : List Stmt}
theorem vs_never : VS X W Old st (ex C F .never) := PS.imp ps_never fun D σ H q => by
  obtain ⟨O, ρ, env, m, S, h⟩ := q
  rw [ex] at h
  exact h
/-! ### for -/
/-- one turn -/
theorem PgS.turn {B : Bs} {mg : Str → Option Value} {O : Hot} {ρ : Option Addr} {H : Hp} {D : Ends} {x : Out (Flo × Ev)} {k : Ev → Mu → Out (Flo × Ev)} {N : L2.St → Hp → Prop} (h : PgS B mg W Old O ρ H D (x.bind fun r m => match r.1 with | .next => k r.2 m | .brk => .ok (.next, r.2) m | .ret d => .ok (.ret d, r.2) m))
    (hN : ∀ O' ρ' σ' H' env' m', Ss B Old O' ρ' σ' H' env' m' → Mv Old O ρ H O' ρ' H' → PgS B mg W Old O' ρ' H' D (k env' m') → N σ' H') : PgS B mg W Old O ρ H { D with nx := N, ct := N, bk := D.nx } x := by
  cases x with
  | ok p m' =>
    obtain ⟨f, env'⟩ := p
    cases f with
    | next => exact fun O' ρ' σ' H' S w => hN O' ρ' σ' H' env' m' S w (PgS.move w h)
    | brk => exact fun O' ρ' σ' H' S w => h O' ρ' σ' H' S w
    | ret d => exact h
  | ex c fs m' => exact h
  | bad => exact h
def fbody (C : Calls) (F : Nat) (tg : Tg) (b : Sms) : PyData → Ev → Mu → Out (Flo × Ev) := fun x env m => match bindG tg env x with
      | some env' => exs C F b env' m
      | none => .bad
theorem for_main {B : Bs} {mg : Str → Option Value} {J : L2.It} {O : Hot} {ρ : Option Addr} {σ : L2.St} {H1 : Hp} {fl : Fl} {xs : List PyData} {env : Ev} {m : Mu} {tg : Tg} {bd : Sms} {D : Ends}
    (IT : ItR B J O ρ H1 fl xs) (hfl : fl ≠ .b) (S : Ss B Old O ρ σ H1 env m) (h : PgS B mg W Old O ρ H1 D (forL (fbody C F tg bd) xs env m)) :
    ∃ V : Nat → Nat → L2.St → Hp → Prop, (∃ m, V 0 m σ H1) ∧ ∀ i m σ H, V i m σ H →
      (J.stop i H ∧ D.nx σ H) ∨ (J.go i H ∧ ∃ N : L2.St → Hp → Prop, (∀ σ' H', N σ' H' → ∃ m', m' < m ∧ V (i + 1) m' σ' H') ∧ ∀ x H', J.yld i H x H' → gB B tg x σ H' fun σ2 H2 => tS B mg W Old (exs C F bd) { D with nx := N, ct := N, bk := D.nx } σ2 H2) := by
  let V : Nat → Nat → L2.St → Hp → Prop := fun i k σ' H' => k = xs.length - i ∧ i ≤ xs.length ∧ ∃ O' ρ' env' m', Ss B Old O' ρ' σ' H' env' m' ∧ Mv Old O ρ H1 O' ρ' H' ∧ PgS B mg W Old O' ρ' H' D (forL (fbody C F tg bd) (xs.drop i) env' m')
  refine ⟨V, ⟨xs.length, by simp, Nat.zero_le _, O, ρ, env, m, S, .refl, by simpa using h⟩, ?_⟩
  rintro i k σ' H' ⟨rfl, hi, O', ρ', env', m', S', w, h'⟩
  have ok : okH O ρ H1 fl O' H' := ⟨w.cold, fun z => absurd z hfl⟩
  by_cases hlt : i < xs.length
  · refine .inr ⟨IT.go O' H' i ok hlt, V (i + 1) (xs.length - (i + 1)), fun σ2 H2 v => ⟨_, by omega, v⟩, fun v H2 yl => ?_⟩
    obtain ⟨xd, ex, hH, rx⟩ := IT.yld O' H' i v H2 ok hlt yl
    have edrop : xs.drop i = xd :: xs.drop (i + 1) := by
      rw [List.drop_eq_getElem_cons hlt]
      rw [List.getElem?_eq_getElem hlt] at ex
      cases ex
      rfl
    rw [edrop] at h'
    unfold forL at h'
    have fr : Fr ρ' H' H2 := by
      rcases hH with rfl | ⟨T, o, hT, rfl⟩
      · exact .refl _ _
      · exact .upd hT
    have cl : Cell B O' ρ' H2 m' := by
      rcases hH with rfl | ⟨T, o, hT, rfl⟩
      · exact S'.sr.cell
      · exact S'.sr.cell.new hT
    have S2 := S'.step fr cl
    have w2 : Mv Old O' ρ' H' O' ρ' H2 := .of_fr fr S'.sr.cell.hρ
    cases eb : bindG tg env' xd with
    | none =>
      unfold fbody at h'
      rw [eb] at h'
      exact h'.elim
    | some env2 =>
      unfold fbody at h'
      rw [eb] at h'
      refine ⟨O', ρ', env', m', xd, env2, S2.sr, rx S'.sr.hot, eb, fun σ2 S3 sto => ?_⟩
      refine ⟨O', ρ', env2, m', ⟨S3, sto.own S2.own, S2.trk⟩, ?_⟩
      refine PgS.turn (PgS.move w2 h') fun O3 ρ3 σ3 H3 env3 m3 S4 w3 h3 => ?_
      exact ⟨rfl, hlt, O3, ρ3, env3, m3, S4, w.trans (w2.trans w3), h3⟩
  · have e : i = xs.length := by omega
    subst e
    rw [List.drop_length] at h'
    unfold forL at h'
    exact .inl ⟨IT.stop O' H' ok, h' O' ρ' σ' H' S' .refl⟩
theorem vs_for {tgE iterE : Expr} {body : List Stmt} {tg : Tg} {it : It} {bd : Sms} (k : Cok X c C n W) (hp : PassesOwn (model X.prog X.w) X.A X.env X.xe) (hk : isKeys it = false) (hs : ∀ x, foldedSetIterable iterE X.env x = pure x) (hi : VI X W tgE iterE (evI C it)) (hg : PG X tgE (gB (bsOf X) tg)) (hb : VSs X W Old body (exs C F bd)) :
    VS X W Old (.For tgE iterE body [] pos) (ex C F (.for tg it bd)) := PS.imp (ps_for hp k.calm hi hg hb hs) fun D σ H q => by
  obtain ⟨O, ρ, env, m, S, h⟩ := q
  rw [ex, hk] at h
  refine ⟨O, ρ, env, m, S.sr, (PgS.expr S h).mono fun p m1 _ x1 J H1 f1 c1 IT => ?_⟩
  obtain ⟨xs, fl⟩ := p
  have w : Mv Old O ρ H O ρ H1 := .of_fr f1 S.sr.cell.hρ
  cases fl with
  | b => exact x1.elim
  | c => exact for_main IT (by simp) (S.step f1 c1) (PgS.move w x1)
  | f => exact for_main IT (by simp) (S.step f1 c1) (PgS.move w x1)
/-! ### while -/
theorem while_main {B : Bs} {mg : Str → Option Value} {cnd : EvF} {bd : Sms} {D : Ends} {σ : L2.St} {H : Hp} {O : Hot} {ρ : Option Addr} {env : Ev} {m : Mu} {fuel : Nat} (S : Ss B Old O ρ σ H env m) (h : PgS B mg W Old O ρ H D (whileL cnd (exs C F bd) fuel env m)) :
    tWhile (tT B mg W cnd) (tS B mg W Old (exs C F bd)) D σ H := by
  let V : Nat → L2.St → Hp → Prop := fun k σ' H' => ∃ O' ρ' env' m', Ss B Old O' ρ' σ' H' env' m' ∧ PgS B mg W Old O' ρ' H' D (whileL cnd (exs C F bd) k env' m')
  refine ⟨V, ⟨fuel, O, ρ, env, m, S, h⟩, ?_⟩
  rintro k σ' H' ⟨O', ρ', env', m', S', h'⟩
  cases k with
  | zero => exact h'.elim
  | succ k =>
    unfold whileL at h'
    refine ⟨O', ρ', env', m', S'.sr, (PgS.expr S' h').mono fun p m1 _ x1 => ?_⟩
    obtain ⟨dd, fl⟩ := p
    cases dd with
    | bool t =>
      refine ⟨t, rfl, fun H1 f1 c1 => ?_⟩
      have w : Mv Old O' ρ' H' O' ρ' H1 := .of_fr f1 S'.sr.cell.hρ
      have S1 := S'.step f1 c1
      cases t with
      | true =>
        refine ⟨V k, fun σ2 H2 v => ⟨k, Nat.lt_succ_self _, v⟩, O', ρ', env', m1, S1, ?_⟩
        exact PgS.turn (PgS.move w x1) fun O3 ρ3 σ3 H3 env3 m3 S4 w3 h3 => ⟨O3, ρ3, env3, m3, S4, h3⟩
      | false => exact x1 O' ρ' σ' H1 S1 w
    | _ => exact x1.elim
theorem vs_while {body : List Stmt} {bd : Sms} (hp : PassesOwn (model X.prog X.w) X.A X.env X.xe) (hc : VT X W e (ev C x)) (hb : VSs X W Old body (exs C F bd)) : VS X W Old (.While e body [] pos) (ex C F (.while x bd)) :=
  PS.imp (ps_while hp hc hb) fun D σ H q => by
    obtain ⟨O, ρ, env, m, S, h⟩ := q
    rw [ex] at h
    exact while_main S h
/-! ### own lists and dicts are written -/
theorem own_upd {B : Bs} {O : Hot} {ρ : Option Addr} {σ : L2.St} {H : Hp} {env : Ev} {m : Mu} {i : Nat} {s t : Sl} {a : Addr} {o : HO} (S : Ss B Old O ρ σ H env m) (e : env[i]? = some (some s)) (os : isOwn s = true) (ot : isOwn t = true) (hs : σ[i]? = some (some (.ref a))) (ha : O a) (ne : ρ ≠ some a)
    (r : SlR B O ρ (upd H a o) (.ref a) t) : Ss B Old O ρ σ (upd H a o) (setS env i t) m ∧ Mv Old O ρ H O ρ (upd H a o) := by
  have na := S.own.new i s a e os hs
  have ge : GoesE O O H (upd H a o) := fun b u n q => ⟨by rw [upd_ne (fun z => n (by rw [z]; exact ha))]; exact q, n⟩
  have g := ge.goes
  have hl := (List.getElem?_eq_some_iff.mp e).1
  have key : ∀ (q : Nat) (w : Sl), i ≠ q → (setS env i t)[q]? = some (some w) → env[q]? = some (some w) := fun q w hj hq => by
    unfold setS at hq
    rw [List.getElem?_set_ne hj] at hq
    exact hq
  refine ⟨⟨⟨fun b h => ?_, fun j u h => ?_, ?_, by unfold setS; rw [List.length_set]; exact S.sr.len⟩, ⟨fun j u b h1 h2 h3 => ?_, fun j l u w b hjl h1 h2 h3 h4 => ?_⟩, fun b old => ?_⟩, ⟨ge, fun b u old _ q => by rw [upd_ne (fun z => na (by rw [← z]; exact old))]; exact q, fun _ _ => Iff.rfl, .inl rfl⟩⟩
  · by_cases hb : b = a
    · rw [hb]; exact ⟨o, upd_same⟩
    · obtain ⟨q, hq⟩ := S.sr.hot b h
      exact ⟨q, by rw [upd_ne hb]; exact hq⟩
  · by_cases hj : i = j
    · subst hj
      unfold setS at h
      rw [List.getElem?_set_self hl] at h
      cases h
      exact ⟨_, hs, r⟩
    · have h' := key j u hj h
      obtain ⟨v, e1, r1⟩ := S.sr.slot j u h'
      refine ⟨v, e1, ?_⟩
      cases u with
      | v d => exact Rp.go g _ _ r1
      | o xs =>
        obtain ⟨a', vs, q1, q2, q3, q4, q5⟩ := r1
        subst q1
        have : a' ≠ a := fun z => S.own.apart i j s _ a hj e os h' rfl hs (by rw [← z]; exact e1)
        exact ⟨a', vs, rfl, q2, q3, by rw [upd_ne this]; exact q4, Rps.go g _ _ q5⟩
      | od kvs =>
        obtain ⟨a', vs, q1, q2, q3, sm, q4, nd, z, q5⟩ := r1
        subst q1
        have : a' ≠ a := fun z => S.own.apart i j s _ a hj e os h' rfl hs (by rw [← z]; exact e1)
        exact ⟨a', vs, rfl, q2, q3, sm, by rw [upd_ne this]; exact q4, nd, z, Ens.go g _ _ q5⟩
      | cell => exact r1
      | scr ns =>
        obtain ⟨q, e2, r2⟩ := r1
        refine ⟨q, e2, ?_⟩
        rcases r2 with ⟨ne2, o2, h2⟩ | h2
        · refine .inl ⟨ne2, o2, ?_⟩
          have : q ≠ a := fun z => by
            obtain ⟨v3, e3, r3⟩ := S.sr.slot i s e
            rw [hs] at e3; cases e3
            rw [z] at h2
            cases s with
            | o xs => obtain ⟨a', vs, q1, _, _, q4, _⟩ := r3; cases q1; rw [h2] at q4; cases q4
            | od kvs => obtain ⟨a', vs, q1, _, _, _, q4, _⟩ := r3; cases q1; rw [h2] at q4; cases q4
            | _ => cases os
          rw [upd_ne this]; exact h2
        · exact .inr h2
  · have hc := S.sr.cell
    have hq : ∀ q ns, Scr B.K H q ns → Scr B.K (upd H a o) q ns := fun q ns sc => by
      rcases sc with ⟨o2, h2⟩ | h2
      · refine .inl ⟨o2, ?_⟩
        have : q ≠ a := fun z => by
          obtain ⟨v3, e3, r3⟩ := S.sr.slot i s e
          rw [hs] at e3; cases e3
          rw [z] at h2
          cases s with
          | o xs => obtain ⟨a', vs, q1, _, _, q4, _⟩ := r3; cases q1; rw [h2] at q4; cases q4
          | od kvs => obtain ⟨a', vs, q1, _, _, _, q4, _⟩ := r3; cases q1; rw [h2] at q4; cases q4
          | _ => cases os
        rw [upd_ne this]; exact h2
      · exact .inr h2
    cases m with
    | none => exact hc
    | some p =>
      obtain ⟨a', q, e1, o1, h1, sc⟩ := hc
      exact ⟨a', q, e1, o1, by rw [upd_ne (fun z => ne (by rw [e1, z]))]; exact h1, hq q _ sc⟩
  · by_cases hj : i = j
    · subst hj
      rw [hs] at h3; cases h3
      exact na
    · exact S.own.new j u b (key j u hj h1) h2 h3
  · by_cases hj : i = j
    · subst hj
      exact fun h5 => S.own.apart i l s w b hjl e os (key l w hjl h3) h4 h5
    · by_cases hl2 : i = l
      · subst hl2
        exact fun h5 => S.own.apart j i u s b hjl (key j u hj h1) h2 e os h5
      · exact S.own.apart j l u w b hjl (key j u hj h1) h2 (key l w hl2 h3) h4
  · by_cases hb : b = a
    · exact absurd (by rw [← hb]; exact old) na
    · obtain ⟨q, hq⟩ := S.trk b old
      exact ⟨q, by rw [upd_ne hb]; exact hq⟩
theorem list_upd {B : Bs} {O : Hot} {ρ : Option Addr} {σ : L2.St} {H : Hp} {env : Ev} {m : Mu} {i : Nat} {xs ys : List PyData} {a : Addr} {us : List V} (S : Ss B Old O ρ σ H env m) (e : env[i]? = some (some (.o xs))) (hs : σ[i]? = some (some (.ref a))) (ha : O a) (ne : ρ ≠ some a)
    (k : Rps B O H us ys) : Ss B Old O ρ σ (upd H a (.lst us)) (setS env i (.o ys)) m ∧ Mv Old O ρ H O ρ (upd H a (.lst us)) :=
  own_upd S e rfl rfl hs ha ne ⟨a, us, rfl, ha, ne, upd_same, Rps.go (GoesE.goes fun b u n q => ⟨by rw [upd_ne (fun z => n (by rw [z]; exact ha))]; exact q, n⟩) _ _ k⟩
theorem vs_append {i : Nat} {xx : Str} {p3 : Pos} {apos : Pos} (k : Cok X c C n W) (h : visB c i xx = true) (hbase : attributeBase (.Name xx p3) "append" X.env (eval (.Name xx p3) X.env) = eval (.Name xx p3) X.env) (hline : (apos.endLine == p2.line) = true) (hst : noStar e = true)
    (hfew : ((backTo p2 (starEach [e] X.env)).all (fun x => !x.1) && (backToKw p2 (keywordEach [] X.env)).all (fun x => x.1.isSome) && decide (([e] : List Expr).length + ([] : List Keyword).length + (if ([] : List Keyword).isEmpty then 0 else 1) < 30)) = true)
    (hs : swapsWith (.Call (.Attribute (.Name xx p3) "append" apos) [e] [] p2) none pos.line X.env = pure false) (he : VE X W e (ev C x)) : VS X W Old (.Expr (.Call (.Attribute (.Name xx p3) "append" apos) [e] [] p2) pos) (ex C F (.append i x)) := by
  obtain ⟨h1, h2, h3, h4⟩ := visB_ok k h
  refine PS.imp (ps_expr (pe_bm PySem.F.plainAttrs_list PySem.F.slot_list_append PySem.F.type_list_append mt_append (pe_var h1 h2 h3 h4) (pa_cons he pa_nil (star1 hst)) hbase hfew hline (star1 hst) rfl) hs) fun D σ H q => ?_
  obtain ⟨O, ρ, env, m, S, h⟩ := q
  rw [ex] at h
  cases eg : getS env i with
  | none => simp only [eg] at h; exact h.elim
  | some s =>
    cases s with
    | o xs =>
      simp only [eg] at h
      have ei := getS_some eg
      obtain ⟨v, hv, r0⟩ := S.sr.slot i _ ei
      obtain ⟨a, vs, rfl, ho, ne, ha, kv⟩ := r0
      refine ⟨_, hv, tyV_list (SqL.of ha), ?_⟩
      show tV (bsOf X) X.mg W (ev C x) σ H fun u H2 => rAppend (.ref a) [u] H2 fun _ H3 => D.nx σ H3
      refine tV.part S.sr (PgS.expr S h) fun p m1 u H1 S1 f1 r1 x1 => ?_
      cases ek : keepD p with
      | none => simp only [ek] at x1; exact x1.elim
      | some dd =>
        simp only [ek] at x1
        have r1' : RF (bsOf X) O ρ H H1 u p.1 p.2 := r1
        obtain ⟨e3, rp⟩ := r1'.keep S.sr.hot (show keepD (p.1, p.2) = some dd from ek)
        rw [← e3] at rp
        by_cases hz : sz xs.length = true
        · rw [if_pos hz] at x1
          have kv1 := Rps.go (f1.goes S.sr.cell.hρ) _ _ kv
          have S2 := S.step f1 S1.cell
          obtain ⟨S3, w3⟩ := list_upd S2 ei hv ho ne (kv1.append (.cons rp .nil))
          refine ⟨a, vs, u, rfl, rfl, f1 a _ ne ha, by rw [kv1.length]; exact sz_lt hz, ?_⟩
          exact x1 O ρ σ _ S3 ((Mv.of_fr f1 S.sr.cell.hρ).trans w3)
        · rw [if_neg hz] at x1; exact x1.elim
    | _ => simp only [eg] at h; exact h.elim
end
end Tw
set_option Elab.async false
set_option linter.all false
set_option maxRecDepth 100000
set_option maxHeartbeats 1000000
/-! Statements: stores, pairs, the cell. -/
namespace Tw
open PySem PySem.Spec PyProof.Rows L2
section
variable {X : Cx} {W : WX} {Old : Addr → Prop} {c : Ck} {C : Calls} {F : Nat} {n : Nat} {e a b d : Expr} {pos p2 p3 : Pos} {x y z : Ex} {st : Stmt} {rest : List Stmt}
theorem PSet.or' {t u : TSet} (h : PSet X t) (h' : PSet X u) : PSet X (fun o i v H Q => t o i v H Q ∨ u o i v H Q) := by
  intro pins s σ H o i v ov iv w Q I ro ri rv q
  rcases q with q | q
  · exact h pins s σ H o i v ov iv w Q I ro ri rv q
  · exact h' pins s σ H o i v ov iv w Q I ro ri rv q
/-! ### x[k] = e -/
def rSetD (X : Cx) : TSet := fun o i v H Q => ∃ O a xs kvs kd dv, o = .ref a ∧ (a == sysModules) = false ∧ H a = some (dicO (bsOf X) a xs) ∧ O a ∧ (xs.map (·.1)).Nodup ∧ xs.length < sizeLine ∧ Ens (bsOf X) O H xs kvs ∧ Rp (bsOf X) O H i kd ∧ keyOk kd = true ∧ Rp (bsOf X) O H v dv ∧
  ∀ xs', (xs'.map (·.1)).Nodup → xs'.length ≤ sizeLine → Ens (bsOf X) O H xs' (putD kd dv kvs) → Q (upd H a (dicO (bsOf X) a xs'))
theorem storedH_len {K : Type} [DecidableEq K] (xs : List (K × Addr × Value)) (k : K) (b : Addr) (u : Value) : (storedH xs k b u).length ≤ xs.length + 1 := by
  unfold storedH
  split
  · rw [List.length_map]; omega
  · rw [List.length_append, List.length_singleton]; exact Nat.le_refl _
theorem set_dict (k : Cok X c C n W) : PSet X (rSetD X) := by
  intro pins s σ H o i v ov iv u Q I ro ri rv h
  obtain ⟨O, a, xs, kvs, kd, dv, rfl, sm, hH, ha, nd, hz, hk, hi, hkk, hv, q⟩ := h
  cases ro
  obtain ⟨kk, bb, ek, dp, rfl, rfl, his⟩ := key_is I hkk hi ri
  have hm := inv_dictOf I (.inl hH) nd hk
  refine wpAny_setItem_heap (hsz := Nat.le_of_lt hz) k.hu1 his hm fun h' dd' hs => ?_
  have hne : ∃ q, h'.get? a = some q := let ⟨q, _, _, hq, _⟩ := dd'; ⟨q, hq⟩
  have J : Inv X pins σ (upd H a (dicO (bsOf X) a (storedH xs kk bb u))) { s with heap := h', toks := s.toks + (nestedKind X.prog X.w).draws kk } :=
    I.write (x := a) (e := a) (by rw [hH]; exact trivial) (.inl rfl) (fun b u' hb e => (hs.2 b hb).trans e) hne (dicO_ok (K := X.K) dd')
  refine ⟨_, J, q _ (nodup_put nd) ?_ ?_⟩
  · have := storedH_len xs kk bb u
    omega
  · rw [← ek]
    exact ens_put dp (by rw [ek]; exact hi) rv hv nd hk
theorem dict_upd {B : Bs} {O : Hot} {ρ : Option Addr} {σ : L2.St} {H : Hp} {env : Ev} {m : Mu} {i : Nat} {kvs kws : List (PyData × PyData)} {a : Addr} {us : List Ent} (S : Ss B Old O ρ σ H env m) (e : env[i]? = some (some (.od kvs))) (hs : σ[i]? = some (some (.ref a))) (ha : O a) (ne : ρ ≠ some a)
    (sm : (a == sysModules) = false) (nd : (us.map (·.1)).Nodup) (hz : us.length ≤ sizeLine) (k : Ens B O H us kws) : Ss B Old O ρ σ (upd H a (dicO B a us)) (setS env i (.od kws)) m ∧ Mv Old O ρ H O ρ (upd H a (dicO B a us)) :=
  own_upd S e rfl rfl hs ha ne ⟨a, us, rfl, ha, ne, sm, upd_same, nd, hz, Ens.go (GoesE.goes fun b u n q => ⟨by rw [upd_ne (fun z => n (by rw [z]; exact ha))]; exact q, n⟩) _ _ k⟩
theorem ixN_nat {n : Nat} {i : Int} (h0 : 0 ≤ i) (h1 : i < n) : ixN n i = some i.toNat := by
  unfold ixN
  rw [if_pos h0, if_pos (by omega)]
theorem ownS_some {env : Ev} {i : Nat} {s : Sl} (h : ownS (getS env i) = some s) : env[i]? = some (some s) ∧ isOwn s = true := by
  unfold ownS at h
  cases e : getS env i with
  | none => rw [e] at h; cases h
  | some t =>
    rw [e] at h
    simp only at h
    split at h
    · rename_i ho
      cases h
      exact ⟨getS_some e, ho⟩
    · cases h
/-- the store itself -/
theorem store_ok' {O : Hot} {ρ : Option Addr} {σ : L2.St} {H0 H : Hp} {env : Ev} {m : Mu} {i : Nat} {s s' : Sl} {o iv v : V} {kd dd : PyData} {kf : Fl} {Q : Hp → Prop} (S : Ss (bsOf X) Old O ρ σ H env m) (ei : env[i]? = some (some s)) (os : isOwn s = true) (hv : σ[i]? = some (some o)) (es : storeIx s kd dd = some s')
    (rk : RF (bsOf X) O ρ H0 H iv kd kf) (rp : Rp (bsOf X) O H v dd) (q : ∀ H3, Ss (bsOf X) Old O ρ σ H3 (setS env i s') m → Mv Old O ρ H O ρ H3 → Q H3) : rSetL o iv v H Q ∨ rSetD X o iv v H Q := by
  obtain ⟨v', hv', r0⟩ := S.sr.slot i s ei
  rw [hv] at hv'; cases hv'
  cases s with
  | o xs =>
    obtain ⟨a, vs, rfl, ho, ne, ha, kv⟩ := r0
    unfold storeIx at es
    split at es
    · rename_i xs' k0 e1
      cases e1
      split at es
      · rename_i hz
        cases es
        simp only [Bool.and_eq_true, decide_eq_true_eq] at hz
        obtain ⟨S3, w3⟩ := list_upd S ei hv ho ne (kv.set k0.toNat rp)
        exact .inl ⟨a, vs, k0, k0.toNat, rfl, rk.int, ha, ixN_nat hz.1 (by rw [kv.length]; exact hz.2), q _ S3 w3⟩
      · cases es
    · rename_i e1; cases e1
    · cases es
  | od kvs =>
    obtain ⟨a, xs, rfl, ho, ne, sm, ha, nd, z, kv⟩ := r0
    simp only [storeIx] at es
    split at es
    · rename_i hz
      cases es
      simp only [Bool.and_eq_true] at hz
      obtain ⟨ys, ey⟩ := (keyOk_key hz.1).2
      have rk' : Rp (bsOf X) O H iv kd := by rw [ey] at rk ⊢; exact RF.keepT (H1 := H) rk
      refine .inr ⟨O, a, xs, kvs, kd, dd, rfl, sm, ha, ho, nd, by rw [ens_length kv]; exact sz_lt hz.2, kv, rk', hz.1, rp, fun xs' nd' z' k' => ?_⟩
      obtain ⟨S3, w3⟩ := dict_upd S ei hv ho ne sm nd' z' k'
      exact q _ S3 w3
    · cases es
  | _ => cases os
theorem vs_setIx {i : Nat} {xx : Str} {ke : Expr} {p4 : Pos} (k : Cok X c C n W) (h : visB c i xx = true) (hs : swapsWithSole [.Subscript (.Name xx p3) ke p4] e pos.line X.env = pure false) (hw : swappedStores [.Subscript (.Name xx p3) ke p4] e X.env = pure none)
    (h1 : (assignEach [.Subscript (.Name xx p3) ke p4] X.env).map (·.2) = [assign (.Subscript (.Name xx p3) ke p4) X.env])
    (has : ∀ v, assign (.Subscript (.Name xx p3) ke p4) X.env v = (do
      let ov ← holding [v] (eval (.Name xx p3) X.env)
      let iv ← holding [v, ov] (eval ke X.env)
      standAt p4
      holding [v, ov, iv] (setItem ov iv v)
      release [v, ov, iv] []))
    (hk : VE X W ke (ev C y)) (he : VE X W e (ev C x)) : VS X W Old (.Assign [.Subscript (.Name xx p3) ke p4] e pos) (ex C F (.setIx i y x)) := by
  obtain ⟨g1, g2, g3, g4⟩ := visB_ok k h
  refine PS.imp (ps_asg he (pg_sub (pe_var g1 g2 g3 g4) hk (PSet.or' set_list (set_dict k)) has) hs hw h1) fun D σ H q => ?_
  obtain ⟨O, ρ, env, m, S, h⟩ := q
  rw [ex] at h
  refine tV.part S.sr (PgS.expr S h) fun p1 m1 v H1 S1 f1 r1 x1 => ?_
  have SS1 := S.step f1 S1.cell
  have w1 : Mv Old O ρ H O ρ H1 := .of_fr f1 S.sr.cell.hρ
  cases ek : keepD p1 with
  | none => simp only [ek] at x1; exact x1.elim
  | some dd =>
    have r1' : RF (bsOf X) O ρ H H1 v p1.1 p1.2 := r1
    obtain ⟨e3, rp⟩ := r1'.keep S.sr.hot (show keepD (p1.1, p1.2) = some dd from ek)
    rw [← e3] at rp
    cases eo : ownS (getS env i) with
    | none => simp only [ek, eo] at x1; exact x1.elim
    | some s =>
      simp only [ek, eo] at x1
      obtain ⟨ei, os⟩ := ownS_some eo
      obtain ⟨vs, hv, r0⟩ := SS1.sr.slot i s ei
      refine ⟨vs, hv, ?_⟩
      refine tV.part SS1.sr (PgS.expr SS1 (PgS.move w1 x1)) fun p2 m2 u H2 S2 f2 r2 x2 => ?_
      have SS2 := SS1.step f2 S2.cell
      have w2 : Mv Old O ρ H1 O ρ H2 := .of_fr f2 SS1.sr.cell.hρ
      cases es : storeIx s p2.1 dd with
      | none => rw [es] at x2; exact x2.elim
      | some s' =>
        rw [es] at x2
        exact store_ok' SS2 ei os hv es r2 (Rp.go (f2.goes SS1.sr.cell.hρ) _ _ rp) fun H3 S3 w3 => x2 O ρ σ H3 S3 (w2.trans w3)
end
end Tw
set_option Elab.async false
set_option linter.all false
set_option maxRecDepth 100000
set_option maxHeartbeats 1000000
/-! Statements: pairs, the cell, op=, pop. -/
namespace Tw
open PySem PySem.Spec PyProof.Rows L2
theorem Out.bind_assoc {α β γ : Type} (x : Out α) (f : α → Mu → Out β) (g : β → Mu → Out γ) : (x.bind f).bind g = x.bind fun a m => (f a m).bind g := by cases x <;> rfl
section
variable {X : Cx} {W : WX} {Old : Addr → Prop} {c : Ck} {C : Calls} {F : Nat} {n : Nat} {e a b d : Expr} {pos p2 p3 : Pos} {x y z : Ex} {st : Stmt} {rest : List Stmt}
theorem SlR.go2 {B : Bs} {O O' : Hot} {ρ : Option Addr} {H H' : Hp} {v : V} {s : Sl} (g : Goes O O' H H') (f : Fr ρ H H') (hO : ∀ b, O b → O' b) (r : SlR B O ρ H v s) : SlR B O' ρ H' v s := by
  cases s with
  | v d => exact Rp.go g _ _ r
  | o xs => obtain ⟨a, vs, q1, q2, q3, q4, q5⟩ := r; exact ⟨a, vs, q1, hO _ q2, q3, f _ _ q3 q4, Rps.go g _ _ q5⟩
  | od kvs => obtain ⟨a, xs, q1, q2, q3, sm, q4, nd, z, q5⟩ := r; exact ⟨a, xs, q1, hO _ q2, q3, sm, f _ _ q3 q4, nd, z, Ens.go g _ _ q5⟩
  | cell => exact r
  | scr ns =>
    obtain ⟨q, e, r⟩ := r
    refine ⟨q, e, ?_⟩
    rcases r with ⟨ne, o, h⟩ | h
    · exact .inl ⟨ne, o, f _ _ ne h⟩
    · exact .inr h
/-! ### a, b = x, y -/
theorem par_core {i j : Nat} {D : Ends} {σ : L2.St} {H : Hp} (q : tS (bsOf X) X.mg W Old (ex C F (.par [i, j] (.cons x (.cons y .nil)))) D σ H) :
    tV (bsOf X) X.mg W (ev C x) σ H fun v H1 => tV (bsOf X) X.mg W (ev C y) σ H1 fun w H2 => ∀ H3, (H3 = H2 ∨ ∃ q o, H2 q = none ∧ H3 = upd H2 q o) → D.nx ((σ.set i (some v)).set j (some w)) H3 := by
  obtain ⟨O, ρ, env, m, S, h⟩ := q
  rw [ex, evP, Out.bind_assoc] at h
  refine tV.part S.sr (PgS.expr S h) fun p1 m1 v H1 S1 f1 r1 x1 => ?_
  rw [evP, Out.bind_assoc, Out.bind_assoc] at x1
  simp only [evP, Out.bind_ok] at x1
  cases e1 : slV p1 with
  | none =>
    refine tV.part S1 (PgS.expr (S.step f1 S1.cell) (PgS.move (.of_fr f1 S.sr.cell.hρ) x1)) fun p2 m2 w H2 S2 f2 r2 x2 => ?_
    unfold parV at x2
    rw [setV_sl, e1] at x2
    exact x2.elim
  | some s1 =>
    obtain ⟨O1, hO1, SS1, sl1, w1, fr1⟩ := take S f1 S1.cell r1 e1
    refine tV.part SS1.sr (PgS.expr SS1 (PgS.move w1 x1)) fun p2 m2 w H2 S2 f2 r2 x2 => ?_
    simp only [parV, setV_sl, e1, Option.map_some] at x2
    cases e2 : slV p2 with
    | none => rw [e2] at x2; exact x2.elim
    | some s2 =>
      simp only [e2, Option.map_some] at x2
      obtain ⟨O2, hO2, SS2, sl2, w2, fr2⟩ := take SS1 f2 S2.cell r2 e2
      have sl1' := SlR.go2 w2.cold.goes f2 hO2 sl1
      have notOld : ∀ a, H a = none → ¬ Old a := fun a n old => by obtain ⟨o, q⟩ := S.trk a old; rw [n] at q; cases q
      have P1 := SS2.put (i := i) sl1' fun hs1 => by
        obtain ⟨a1, ev1, n1, t1⟩ := fr1 hs1
        exact ⟨a1, ev1, notOld a1 n1, fun l t h1 h2 _ h3 => by obtain ⟨o, q⟩ := S.sr.ownTr h1 h2 h3; rw [n1] at q; cases q⟩
      have P2 := P1.put (i := j) (v := w) (s := s2) sl2 fun hs2 => by
        obtain ⟨a2, ev2, n2, t2⟩ := fr2 hs2
        refine ⟨a2, ev2, fun old => ?_, fun l t h1 h2 hl h3 => ?_⟩
        · obtain ⟨o, q⟩ := SS1.trk a2 old; rw [n2] at q; cases q
        · by_cases hil : i = l
          · subst hil
            have hll : i < env.length := by
              rcases Nat.lt_or_ge i env.length with h | h
              · exact h
              · unfold setS at h1; rw [List.getElem?_eq_none (by rw [List.length_set]; exact h)] at h1; cases h1
            unfold setS at h1
            rw [List.getElem?_set_self hll] at h1
            cases h1
            rw [List.getElem?_set_self (Nat.lt_of_lt_of_le hll S.sr.len)] at h3
            obtain ⟨a1, ev1, n1, t1⟩ := fr1 h2
            rw [ev1] at h3
            cases h3
            exact t1 n2
          · unfold setS at h1
            rw [List.getElem?_set_ne hil] at h1 h3
            obtain ⟨o, q⟩ := SS1.sr.ownTr h1 h2 h3
            rw [n2] at q; cases q
      intro H3 h3
      rcases h3 with rfl | ⟨q, o, nq, rfl⟩
      · exact x2 O2 ρ _ _ P2 w2
      · exact x2 O2 ρ _ _ (P2.step (.upd nq) (P2.sr.cell.new nq)) (w2.trans (.of_fr (.upd nq) P2.sr.cell.hρ))
theorem vs_par2 {i j : Nat} {xx yy : Str} {px py tp : Pos} {kt k2 : Nat} {p4 : Pos} (k : Cok X c C n W) (hij : i ≠ j) (hi : locB c i xx = true) (hj : locB c j yy = true) (li : c.sc.names.lookup xx = some .local) (lj : c.sc.names.lookup yy = some .local) (hsa : noStar a = true) (hsb : noStar b = true)
    (hw : swappedStores [.Tuple [.Name xx px, .Name yy py] kt tp] (.Tuple [a, b] k2 p4) X.env = pure (some [xx, yy])) (hs : swapsWithSole [.Tuple [.Name xx px, .Name yy py] kt tp] (.Tuple [a, b] k2 p4) pos.line X.env = pure false)
    (ha : VE X W a (ev C x)) (hb : VE X W b (ev C y)) : VS X W Old (.Assign [.Tuple [.Name xx px, .Name yy py] kt tp] (.Tuple [a, b] k2 p4) pos) (ex C F (.par [i, j] (.cons x (.cons y .nil)))) := by
  obtain ⟨g1, _, _⟩ := locB_ok k hi
  obtain ⟨g2, _, _⟩ := locB_ok k hj
  refine PS.imp (ps_par k.calm (nd_of k) g1 g2 hij (by rw [k.hsc]; exact li) (by rw [k.hsc]; exact lj) (pa_cons ha (pa_cons hb pa_nil (star1 hsb)) (star_ok hsa)) hw hs) fun D σ H q => ?_
  have r := par_core q
  obtain ⟨O, ρ, env, m, S, h⟩ := r
  refine ⟨O, ρ, env, m, S, h.mono fun p m1 _ h1 v H1 f1 c1 r1 => ?_⟩
  obtain ⟨O2, ρ2, env2, m2, S2, h2⟩ := h1 v H1 f1 c1 r1
  refine ⟨O2, ρ2, env2, m2, S2, h2.mono fun p2 m3 _ h3 w H2 f2 c2 r2 => ?_⟩
  exact ⟨v, w, rfl, h3 w H2 f2 c2 r2 H2 (.inl rfl)⟩
theorem vs_parT {i j : Nat} {xx yy : Str} {px py tp : Pos} {kt k2 : Nat} {p4 : Pos} (k : Cok X c C n W) (hi : locB c i xx = true) (hj : locB c j yy = true) (hsa : noStar a = true) (hsb : noStar b = true)
    (hw : swappedStores [.Tuple [.Name xx px, .Name yy py] kt tp] (.Tuple [a, b] k2 p4) X.env = pure none) (hs : swapsWithSole [.Tuple [.Name xx px, .Name yy py] kt tp] (.Tuple [a, b] k2 p4) pos.line X.env = pure false)
    (ha : VE X W a (ev C x)) (hb : VE X W b (ev C y)) : VS X W Old (.Assign [.Tuple [.Name xx px, .Name yy py] kt tp] (.Tuple [a, b] k2 p4) pos) (ex C F (.par [i, j] (.cons x (.cons y .nil)))) := by
  obtain ⟨g1, g2, g3⟩ := locB_ok k hi
  obtain ⟨g4, g5, g6⟩ := locB_ok k hj
  refine PS.imp (ps_asg (pe_tup (pa_cons ha (pa_cons hb pa_nil (star1 hsb)) (star_ok hsa))) (pg_tup k.calm (pgs_cons (pg_name (nd_of k) g1 g2 g3) (pgs_cons (pg_name (nd_of k) g4 g5 g6) pgs_nil)) rfl rfl) hs hw) fun D σ H q => ?_
  have r := par_core q
  obtain ⟨O, ρ, env, m, S, h⟩ := r
  refine ⟨O, ρ, env, m, S, h.mono fun p m1 _ h1 v H1 f1 c1 r1 => ?_⟩
  obtain ⟨O2, ρ2, env2, m2, S2, h2⟩ := h1 v H1 f1 c1 r1
  refine ⟨O2, ρ2, env2, m2, S2, h2.mono fun p2 m3 _ h3 w H2 f2 c2 r2 => ?_⟩
  refine ⟨by rw [sizeLine_eq]; simp, fun T nT => ⟨T, [v, w], rfl, .inl (.inl upd_same), rfl, v, [w], rfl, w, [], rfl, rfl, ?_⟩⟩
  exact h3 w H2 f2 c2 r2 _ (.inr ⟨T, _, nT, rfl⟩)
/-! ### the cell -/
theorem setCellD_some {s : Option Sl} {m : Mu} {d : PyData} {t : Nat} {pp : List Int × List Int} (h : setCellD s m d t = some pp) : ∃ p vv nn, s = some .cell ∧ m = some p ∧ d = .int vv ∧ t = nn + 1 ∧ nn < p.2.length ∧ pp = (p.1, p.2.set nn vv) := by
  unfold setCellD at h
  split at h
  · rename_i p vv nn e1
    split at h
    · rename_i hz
      cases h
      refine ⟨p, vv, nn, rfl, rfl, ?_, rfl, hz, rfl⟩
      cases d <;> simp [intOf] at e1
      rw [e1]
    · cases h
  · cases h
theorem cell_upd {B : Bs} {O : Hot} {ρ : Option Addr} {σ : L2.St} {H : Hp} {env : Ev} {p : List Int × List Int} {a q : Addr} {xs : List V} (S : Ss B Old O ρ σ H env (some p)) (er : ρ = some a) (hH : H a = some (.lst xs)) (sc : Scr B.K H q p.1) (ks : List Int) :
    Ss B Old O ρ σ (upd H a (.lst (.ref q :: ks.map V.int))) env (some (p.1, ks)) ∧ Mv Old O ρ H O ρ (upd H a (.lst (.ref q :: ks.map V.int))) := by
  have ha : O a := S.sr.cell.hρ a er
  have ge : GoesE O O H (upd H a (.lst (.ref q :: ks.map V.int))) := fun b u n q => ⟨by rw [upd_ne (fun z => n (by rw [z]; exact ha))]; exact q, n⟩
  have g := ge.goes
  have fz : ∀ b o u, H b = some (.frz o u) → upd H a (.lst (.ref q :: ks.map V.int)) b = some (.frz o u) := fun b o u hb => by
    have : b ≠ a := fun z => by rw [z, hH] at hb; cases hb
    rw [upd_ne this]; exact hb
  refine ⟨⟨⟨fun b h => ?_, fun j u h => ?_, ⟨a, q, er, ha, upd_same, ?_⟩, S.sr.len⟩, S.own, fun b old => ?_⟩, ⟨ge, fun b u old ne hb => by rw [upd_ne (fun z => ne (by rw [z, er]))]; exact hb, fun _ _ => Iff.rfl, .inl rfl⟩⟩
  · by_cases hb : b = a
    · rw [hb]; exact ⟨_, upd_same⟩
    · obtain ⟨o, ho⟩ := S.sr.hot b h
      exact ⟨o, by rw [upd_ne hb]; exact ho⟩
  · obtain ⟨v, e1, r1⟩ := S.sr.slot j u h
    refine ⟨v, e1, ?_⟩
    cases u with
    | v d => exact Rp.go g _ _ r1
    | o xs => obtain ⟨a', vs, q1, q2, q3, q4, q5⟩ := r1; exact ⟨a', vs, q1, q2, q3, by rw [upd_ne (fun z => q3 (by rw [er, z]))]; exact q4, Rps.go g _ _ q5⟩
    | od kvs => obtain ⟨a', vs, q1, q2, q3, sm, q4, nd, z, q5⟩ := r1; exact ⟨a', vs, q1, q2, q3, sm, by rw [upd_ne (fun z => q3 (by rw [er, z]))]; exact q4, nd, z, Ens.go g _ _ q5⟩
    | cell => exact r1
    | scr ns =>
      obtain ⟨q2, e2, r2⟩ := r1
      refine ⟨q2, e2, ?_⟩
      rcases r2 with ⟨ne2, o2, h2⟩ | h2
      · exact .inl ⟨ne2, o2, fz _ _ _ h2⟩
      · exact .inr h2
  · rcases sc with ⟨o2, h2⟩ | h2
    · exact .inl ⟨o2, fz _ _ _ h2⟩
    · exact .inr h2
  · by_cases hb : b = a
    · rw [hb]; exact ⟨_, upd_same⟩
    · obtain ⟨o, ho⟩ := S.trk b old
      exact ⟨o, by rw [upd_ne hb]; exact ho⟩
theorem vs_setCell {i t : Nat} {xx : Str} {jj : Nat} {p4 p5 : Pos} (k : Cok X c C n W) (h : visB c i xx = true) (hs : swapsWithSole [.Subscript (.Name xx p3) (.Constant (.int (t : Nat)) jj p5) p4] e pos.line X.env = pure false) (hw : swappedStores [.Subscript (.Name xx p3) (.Constant (.int (t : Nat)) jj p5) p4] e X.env = pure none)
    (h1 : (assignEach [.Subscript (.Name xx p3) (.Constant (.int (t : Nat)) jj p5) p4] X.env).map (·.2) = [assign (.Subscript (.Name xx p3) (.Constant (.int (t : Nat)) jj p5) p4) X.env])
    (has : ∀ v, assign (.Subscript (.Name xx p3) (.Constant (.int (t : Nat)) jj p5) p4) X.env v = (do
      let ov ← holding [v] (eval (.Name xx p3) X.env)
      let iv ← holding [v, ov] (eval (.Constant (.int (t : Nat)) jj p5) X.env)
      standAt p4
      holding [v, ov, iv] (setItem ov iv v)
      release [v, ov, iv] []))
    (he : VE X W e (ev C x)) : VS X W Old (.Assign [.Subscript (.Name xx p3) (.Constant (.int (t : Nat)) jj p5) p4] e pos) (ex C F (.setCell i t x)) := by
  obtain ⟨g1, g2, g3, g4⟩ := visB_ok k h
  refine PS.imp (ps_asg he (pg_sub (pe_var g1 g2 g3 g4) pe_int set_list has) hs hw h1) fun D σ H q => ?_
  obtain ⟨O, ρ, env, m, S, h⟩ := q
  rw [ex] at h
  refine tV.part S.sr (PgS.expr S h) fun p1 m1 v H1 S1 f1 r1 x1 => ?_
  have SS1 := S.step f1 S1.cell
  have w1 : Mv Old O ρ H O ρ H1 := .of_fr f1 S.sr.cell.hρ
  cases es : setCellD (getS env i) m1 p1.1 t with
  | none => simp only [es] at x1; exact x1.elim
  | some pp =>
    simp only [es] at x1
    obtain ⟨p, vv, nn, eg, em, e1, et, hz, rfl⟩ := setCellD_some es
    subst em et
    obtain ⟨vs, hv, r0⟩ := SS1.sr.slot i _ (getS_some eg)
    obtain ⟨ad, er, rfl⟩ := r0
    obtain ⟨ad', q, er', ho, hH, sc⟩ := id SS1.sr.cell
    rw [er] at er'; cases er'
    have rv : RF (bsOf X) O ρ H H1 v (.int vv) p1.2 := by rw [← e1]; exact r1
    have el : (V.ref q :: p.2.map V.int).set (nn + 1) (.int vv) = V.ref q :: (p.2.set nn vv).map V.int := by simp [List.map_set]
    refine ⟨_, hv, ad, _, ((nn + 1 : Nat) : Int), nn + 1, rfl, rfl, hH, ?_, ?_⟩
    · rw [ixN_nat (by omega) (by simp; omega)]; simp
    · rw [rv.int, el]
      obtain ⟨S3, w3⟩ := cell_upd SS1 er hH sc (p.2.set nn vv)
      exact x1 O ρ σ _ S3 (w1.trans w3)
theorem newCellD_some {s : Option Sl} {m : Mu} {ns : List Int} (h : newCellD s m = some ns) : s = some (.scr ns) ∧ m = none := by
  unfold newCellD at h
  split at h
  · cases h; exact ⟨rfl, rfl⟩
  · cases h
/-- constants -/
def tInts (ks : List Int) : TA := fun _ H Q => Q (ks.map V.int) H
theorem vs_newCell {i j : Nat} {ks : List Int} {xx yy : Str} {p4 : Pos} {es : List Expr} (k : Cok X c C n W) (hl : locB c i xx = true) (hv : visB c j yy = true) (hk3 : ks.length ≤ 100) (hs : swapsWith (.List (.Name yy p3 :: es) p4) (some (.Name xx p2)) pos.line X.env = pure false) (hes : PA X es (tInts ks)) (hij : i ≠ j) :
    VS X W Old (.Assign [.Name xx p2] (.List (.Name yy p3 :: es) p4) pos) (ex C F (.newCell i j ks)) := by
  obtain ⟨h1, h2, h3⟩ := locB_ok k hl
  obtain ⟨g1, g2, g3, g4⟩ := visB_ok k hv
  refine PS.imp (ps_set (nd_of k) h1 h2 (pe_lst (pa_cons (pe_var g1 g2 g3 g4) hes (star_ok rfl))) hs h3) fun D σ H q => ?_
  obtain ⟨O, ρ, env, m, S, h⟩ := q
  rw [ex] at h
  cases en : newCellD (getS env j) m with
  | none => simp only [en] at h; exact h.elim
  | some ns =>
    simp only [en] at h
    obtain ⟨ej, rfl⟩ := newCellD_some en
    obtain ⟨v, hv, q, rfl, sc⟩ := S.sr.slot j _ (getS_some ej)
    have hρ : ρ = none := S.sr.cell
    subst hρ
    refine ⟨_, hv, by simp [sizeLine_eq]; omega, fun a na => ?_⟩
    have ge : GoesE O (fun b => O b ∨ b = a) H (upd H a (.lst (.ref q :: ks.map V.int))) := fun b u nb hb => ⟨by rw [upd_ne (ne_of_none hb na)]; exact hb, fun z => z.elim nb fun w => ne_of_none hb na w⟩
    have g := ge.goes
    have hne : ∀ b o, H b = some o → upd H a (.lst (.ref q :: ks.map V.int)) b = some o := fun b o hb => by rw [upd_ne (ne_of_none hb na)]; exact hb
    have oldne : ∀ b, Old b → b ≠ a := fun b old z => by obtain ⟨o, e⟩ := S.trk b old; rw [z, na] at e; cases e
    have key : ∀ (l : Nat) (t : Sl), (env.set j none)[l]? = some (some t) → l ≠ j ∧ env[l]? = some (some t) := fun l t e => by
      by_cases hlj : j = l
      · subst hlj
        by_cases hl : j < env.length
        · rw [List.getElem?_set_self hl] at e; cases e
        · rw [List.getElem?_eq_none (by rw [List.length_set]; omega)] at e; cases e
      · rw [List.getElem?_set_ne hlj] at e
        exact ⟨Ne.symm hlj, e⟩
    have ke2 : ∀ (l : Nat) (t : Sl), (setS (env.set j none) i .cell)[l]? = some (some t) → (l = i ∧ t = .cell) ∨ (l ≠ i ∧ l ≠ j ∧ env[l]? = some (some t)) := fun l t e => by
      unfold setS at e
      by_cases hli : i = l
      · subst hli
        by_cases hl : i < (env.set j none).length
        · rw [List.getElem?_set_self hl] at e
          cases e
          exact .inl ⟨rfl, rfl⟩
        · rw [List.getElem?_eq_none (by rw [List.length_set]; omega)] at e; cases e
      · rw [List.getElem?_set_ne hli] at e
        obtain ⟨h1, h2⟩ := key l t e
        exact .inr ⟨Ne.symm hli, h1, h2⟩
    refine h (fun b => O b ∨ b = a) (some a) _ _ ⟨⟨fun b hb => ?_, fun l t e => ?_, ⟨a, q, rfl, .inr rfl, upd_same, ?_⟩, by unfold setS; rw [List.length_set, List.length_set, List.length_set]; exact S.sr.len⟩, ⟨fun l t b e1 e2 e3 => ?_, fun l l2 t u b hll e1 e2 e3 e4 => ?_⟩, fun b old => ?_⟩ ⟨ge, fun b o old _ hb => hne b o hb, fun b old => ⟨fun z => z.elim id fun w => absurd w (oldne b old), .inl⟩, .inr ⟨rfl, fun b e old => oldne b old (by cases e; rfl)⟩⟩
    · rcases hb with hb | hb
      · obtain ⟨o, e⟩ := S.sr.hot b hb; exact ⟨o, hne b o e⟩
      · rw [hb]; exact ⟨_, upd_same⟩
    · rcases ke2 l t e with ⟨rfl, rfl⟩ | ⟨h1, h2, e1⟩
      · have hl : l < env.length := by
          have := (List.getElem?_eq_some_iff.mp e).1
          unfold setS at this
          rwa [List.length_set, List.length_set] at this
        exact ⟨_, List.getElem?_set_self (Nat.lt_of_lt_of_le hl S.sr.len), a, rfl, rfl⟩
      · obtain ⟨v, ev, r⟩ := S.sr.slot l t e1
        refine ⟨v, by rw [List.getElem?_set_ne (Ne.symm h1)]; exact ev, ?_⟩
        have ane : ∀ b o, H b = some o → (some a : Option Addr) ≠ some b := fun b o hb z => by cases z; rw [na] at hb; cases hb
        cases t with
        | v d => exact Rp.go g _ _ r
        | o xs => obtain ⟨a', vs, q1, q2, q3, q4, q5⟩ := r; exact ⟨a', vs, q1, .inl q2, ane _ _ q4, hne _ _ q4, Rps.go g _ _ q5⟩
        | od kvs => obtain ⟨a', vs, q1, q2, q3, sm, q4, nd, z, q5⟩ := r; exact ⟨a', vs, q1, .inl q2, ane _ _ q4, sm, hne _ _ q4, nd, z, Ens.go g _ _ q5⟩
        | cell => obtain ⟨a', e2, _⟩ := r; cases e2
        | scr ns =>
          obtain ⟨q2, e2, r2⟩ := r
          refine ⟨q2, e2, ?_⟩
          rcases r2 with ⟨_, o2, h2⟩ | h2
          · exact .inl ⟨ane _ _ h2, o2, hne _ _ h2⟩
          · exact .inr h2
    · rcases sc with ⟨_, o2, h2⟩ | h2
      · exact .inl ⟨o2, hne _ _ h2⟩
      · exact .inr h2
    · rcases ke2 l t e1 with ⟨rfl, rfl⟩ | ⟨h1, h2, e0⟩
      · cases e2
      · rw [List.getElem?_set_ne (Ne.symm h1)] at e3
        exact S.own.new l t b e0 e2 e3
    · rcases ke2 l t e1 with ⟨rfl, rfl⟩ | ⟨h1, h2, e0⟩
      · cases e2
      · rcases ke2 l2 u e3 with ⟨rfl, rfl⟩ | ⟨h3, h4, e5⟩
        · cases e4
        · rw [List.getElem?_set_ne (Ne.symm h1), List.getElem?_set_ne (Ne.symm h3)]
          exact S.own.apart l l2 t u b hll e0 e2 e5 e4
    · obtain ⟨o, e⟩ := S.trk b old
      exact ⟨o, hne b o e⟩
end
end Tw
set_option Elab.async false
set_option linter.all false
set_option maxRecDepth 100000
set_option maxHeartbeats 1000000
/-! zip; rev. -/
namespace Tw
open PySem PySem.Spec PyProof.Rows L2
section
variable {X : Cx} {W : WX} {c : Ck} {C : Calls} {n : Nat} {e a b d : Expr} {pos p2 : Pos} {x y z : Ex}
theorem zipD_len : ∀ xs ys : List PyData, (zipD xs ys).length = min xs.length ys.length
  | [], ys => by simp [zipD]
  | x :: xs, [] => by simp [zipD]
  | x :: xs, y :: ys => by simp [zipD, zipD_len xs ys]
theorem zipD_get : ∀ (xs ys : List PyData) (i : Nat) (x y : PyData), xs[i]? = some x → ys[i]? = some y → (zipD xs ys)[i]? = some [x, y]
  | x :: xs, y :: ys, 0, _, _, h, h' => by simp at h h'; subst h; subst h'; simp [zipD]
  | x :: xs, y :: ys, i + 1, _, _, h, h' => by
    simp only [zipD, List.getElem?_cons_succ]
    exact zipD_get xs ys i _ _ (by simpa using h) (by simpa using h')
  | [], ys, i, _, _, h, _ => by simp at h
  | x :: xs, [], i, _, _, _, h' => by simp at h'
theorem okH_l {O O' : Hot} {ρ : Option Addr} {H1 H2 : Hp} {f g : Fl} (h : okH O ρ H1 (joinF f g) O' H2) : okH O ρ H1 (joinF f .c) O' H2 := ⟨h.1, fun e => h.2 (by cases f <;> first | (cases e; done) | (cases g <;> rfl))⟩
theorem okH_r {O O' : Hot} {ρ : Option Addr} {H1 H2 : Hp} {f g : Fl} (h : okH O ρ H1 (joinF f g) O' H2) : okH O ρ H1 (joinF g .c) O' H2 := ⟨h.1, fun e => h.2 (by cases g <;> first | (cases e; done) | (cases f <;> rfl))⟩
theorem both_some {d d' : PyData} {p : List PyData × List PyData} (h : both d d' = some p) : (d = .list p.1 ∧ d' = .list p.2) ∨ (d = .tuple p.1 ∧ d' = .tuple p.2) := by
  unfold both at h
  split at h
  · cases h; exact .inl ⟨rfl, rfl⟩
  · cases h; exact .inr ⟨rfl, rfl⟩
  · cases h
theorem vi_zip {es : List Expr} {kk : Nat} {tp : Pos} (k : Cok X c C n W) (hg : glB c "zip" = true) (hst : noStar a = true) (hst2 : noStar b = true) (ha : VE X W a (ev C x)) (hb : VE X W b (ev C y)) : VI X W (.Tuple es kk tp) (.Call (.Name "zip" p2) [a, b] [] pos) (evI C (.zip x y)) := by
  obtain ⟨g1, g2⟩ := glB_ok k hg
  refine PI.imp (RZ.pi_zipA g1 (k.blt _ (by decide)) (pa_cons ha (pa_cons hb pa_nil (star1 hst2)) (star_ok hst)) (star_ok hst) (by rw [star1 hst2]; rfl)) fun σ H R q => ?_
  obtain ⟨O, ρ, env, m, S, h⟩ := q
  rw [evI] at h
  show tV (bsOf X) X.mg W (ev C x) σ H fun v H1 => tV (bsOf X) X.mg W (ev C y) σ H1 fun u H2 => _
  refine tV.part S h.bind fun p1 m1 v H1 S1 f1 r1 x1 => ?_
  refine tV.part S1 (x1.move f1 fun _ _ z => z).bind fun p2 m2 u H2 S2 f2 r2 x2 => ?_
  cases e : both p1.1 p2.1 with
  | none => simp only [e] at x2; exact x2.elim
  | some pp =>
    simp only [e] at x2
    have r1' : RF (bsOf X) O ρ H H2 v p1.1 p1.2 := r1.go S1.cell.hρ f2
    have hpl : ((zipD pp.1 pp.2).map PyData.tuple).length = min pp.1.length pp.2.length := by rw [List.length_map, zipD_len]
    have hps : ∀ i y x, i < ((zipD pp.1 pp.2).map PyData.tuple).length → pp.1[i]? = some y → pp.2[i]? = some x → ((zipD pp.1 pp.2).map PyData.tuple)[i]? = some (.tuple [y, x]) := fun i y x _ h1 h2 => by
      rw [List.getElem?_map, zipD_get _ _ i y x h1 h2]; rfl
    have e1 : seqOf p1.1 = some pp.1 := by rcases both_some e with ⟨q, _⟩ | ⟨q, _⟩ <;> rw [q] <;> rfl
    have e2 : seqOf p2.1 = some pp.2 := by rcases both_some e with ⟨_, q⟩ | ⟨_, q⟩ <;> rw [q] <;> rfl
    obtain ⟨ad, vs, rfl, hv, hs⟩ := seq_st S.hot r1' e1
    obtain ⟨bd, us, rfl, hu, ht⟩ := seq_st S1.hot r2 e2
    have l1 := hv.length
    have l2 := hu.length
    refine ⟨ad, bd, vs, us, rfl, ?_⟩
    rcases hs with ⟨⟨_, d1⟩, hs⟩ | ⟨⟨_, d1⟩, hs⟩
    · rcases ht with ⟨⟨_, d2⟩, ht⟩ | ⟨⟨_, d2⟩, ht⟩
      · refine .inl ⟨hs O H2 okH_self, ht O H2 okH_self, x2 _ H2 (f1.trans f2) S2.cell ?_⟩
        refine itr_pair (fun H3 => SqL X.K H3 ad vs ∧ SqL X.K H3 bd us) hv hu (fun O' H3 ok => ⟨hs O' H3 (okH_l ok), ht O' H3 (okH_r ok)⟩) (fun i H3 q hi => ?_) (fun H3 q => ⟨vs, us, q.1, q.2, by rw [hpl]; omega⟩) hps fun i H3 w H4 q hi y => ?_
        · rw [hpl] at hi
          exact ⟨vs, us, vs[i]'(by omega), us[i]'(by omega), q.1, q.2, by simp, by simp⟩
        · obtain ⟨T, x, y, h1, h2, h3, h4, h5⟩ := y
          exact ⟨T, y, x, h1, h2, h3, h4 vs q.1, h5 us q.2⟩
      · rcases both_some e with ⟨z1, z2⟩ | ⟨z1, z2⟩
        · rw [z2] at d2; cases d2
        · rw [z1] at d1; cases d1
    · rcases ht with ⟨⟨_, d2⟩, ht⟩ | ⟨⟨_, d2⟩, ht⟩
      · rcases both_some e with ⟨z1, z2⟩ | ⟨z1, z2⟩
        · rw [z1] at d1; cases d1
        · rw [z2] at d2; cases d2
      · refine .inr ⟨hs O H2 okH_self, ht O H2 okH_self, x2 _ H2 (f1.trans f2) S2.cell ?_⟩
        refine itr_pair (fun H3 => SqT X.K H3 ad vs ∧ SqT X.K H3 bd us) hv hu (fun O' H3 ok => ⟨hs O' H3 (okH_l ok), ht O' H3 (okH_r ok)⟩) (fun i H3 q hi => ?_) (fun H3 q => ⟨vs, us, q.1, q.2, by rw [hpl]; omega⟩) hps fun i H3 w H4 q hi y => ?_
        · rw [hpl] at hi
          exact ⟨vs, us, vs[i]'(by omega), us[i]'(by omega), q.1, q.2, by simp, by simp⟩
        · obtain ⟨T, x, y, h1, h2, h3, h4, h5⟩ := y
          exact ⟨T, y, x, h1, h2, h3, h4 vs q.1, h5 us q.2⟩
end
end Tw
set_option Elab.async false
set_option linter.all false
set_option maxRecDepth 100000
set_option maxHeartbeats 1000000
/-! pop, op=. -/
namespace Tw
open PySem PySem.Spec PyProof.Rows L2
section
variable {X : Cx} {W : WX} {Old : Addr → Prop} {c : Ck} {C : Calls} {F : Nat} {n : Nat} {e a b d : Expr} {pos p2 p3 : Pos} {x y z : Ex} {st : Stmt} {rest : List Stmt}
theorem getLast_parts {xs : List PyData} {d : PyData} (h : xs.getLast? = some d) : xs = xs.dropLast ++ [d] ∧ xs[xs.length - 1]? = some d := by
  have hne : xs ≠ [] := fun z => by rw [z] at h; cases h
  have e : xs.getLast hne = d := by rw [List.getLast?_eq_some_getLast hne] at h; exact Option.some.inj h
  refine ⟨by rw [← e]; exact (List.dropLast_concat_getLast hne).symm, ?_⟩
  rw [← List.getLast?_eq_getElem?]; exact h
theorem Rps.dropLast {B : Bs} {O : Hot} {H : Hp} {ds : List PyData} {vs : List V} (h : Rps B O H vs ds) : Rps B O H vs.dropLast ds.dropLast := by
  have e1 : vs.dropLast = vs.take (vs.length - 1) := List.dropLast_eq_take
  have e2 : ds.dropLast = ds.take (ds.length - 1) := List.dropLast_eq_take
  rw [e1, e2, h.length]
  exact h.take _
theorem vs_popTo {i j : Nat} {xx yy : Str} {p4 apos : Pos} (k : Cok X c C n W) (hl : locB c i yy = true) (h : visB c j xx = true) (hbase : attributeBase (.Name xx p3) "pop" X.env (eval (.Name xx p3) X.env) = eval (.Name xx p3) X.env) (hline : (apos.endLine == p2.line) = true)
    (hs : swapsWith (.Call (.Attribute (.Name xx p3) "pop" apos) [] [] p2) (some (.Name yy p4)) pos.line X.env = pure false) : VS X W Old (.Assign [.Name yy p4] (.Call (.Attribute (.Name xx p3) "pop" apos) [] [] p2) pos) (ex C F (.popTo i j)) := by
  obtain ⟨h1, h2, h3⟩ := locB_ok k hl
  obtain ⟨g1, g2, g3, g4⟩ := visB_ok k h
  refine PS.imp (ps_set (nd_of k) h1 h2 (pe_bm0 PySem.F.plainAttrs_list PySem.F.slot_list_pop PySem.F.type_list_pop mt_pop (pe_var g1 g2 g3 g4) hbase hline) hs h3) fun D σ H q => ?_
  obtain ⟨O, ρ, env, m, S, h⟩ := q
  rw [ex] at h
  cases eg : getS env j with
  | none => simp only [eg] at h; exact h.elim
  | some s =>
    cases s with
    | o xs =>
      simp only [eg] at h
      cases el : xs.getLast? with
      | none => simp only [el] at h; exact h.elim
      | some dd =>
        simp only [el] at h
        have ei := getS_some eg
        obtain ⟨v, hv, r0⟩ := S.sr.slot j _ ei
        obtain ⟨ad, vs, rfl, ho, ne, ha, kv⟩ := r0
        obtain ⟨e1, e2⟩ := getLast_parts el
        obtain ⟨w, ew, rw'⟩ := kv.get e2
        obtain ⟨S3, w3⟩ := list_upd S ei hv ho ne kv.dropLast
        have ge : GoesE O O H (upd H ad (.lst vs.dropLast)) := fun b u n q => ⟨by rw [upd_ne (fun z => n (by rw [z]; exact ho))]; exact q, n⟩
        have rw2 : Rp (bsOf X) O (upd H ad (.lst vs.dropLast)) w dd := Rp.go ge.goes _ _ rw'
        refine ⟨_, hv, tyV_list (SqL.of ha), ad, vs, w, rfl, rfl, ha, by rw [kv.length]; exact ew, ?_⟩
        show D.nx (σ.set i (some w)) (upd H ad (.lst vs.dropLast))
        exact h O ρ _ _ (S3.put (s := .v dd) rw2 (fun z => by cases z)) w3
    | _ => simp only [eg] at h; exact h.elim
theorem vs_pop {j : Nat} {xx : Str} {apos : Pos} (k : Cok X c C n W) (h : visB c j xx = true) (hbase : attributeBase (.Name xx p3) "pop" X.env (eval (.Name xx p3) X.env) = eval (.Name xx p3) X.env) (hline : (apos.endLine == p2.line) = true)
    (hs : swapsWith (.Call (.Attribute (.Name xx p3) "pop" apos) [] [] p2) none pos.line X.env = pure false) : VS X W Old (.Expr (.Call (.Attribute (.Name xx p3) "pop" apos) [] [] p2) pos) (ex C F (.pop j)) := by
  obtain ⟨g1, g2, g3, g4⟩ := visB_ok k h
  refine PS.imp (ps_expr (pe_bm0 PySem.F.plainAttrs_list PySem.F.slot_list_pop PySem.F.type_list_pop mt_pop (pe_var g1 g2 g3 g4) hbase hline) hs) fun D σ H q => ?_
  obtain ⟨O, ρ, env, m, S, h⟩ := q
  rw [ex] at h
  cases eg : getS env j with
  | none => simp only [eg] at h; exact h.elim
  | some s =>
    cases s with
    | o xs =>
      simp only [eg] at h
      cases el : xs.getLast? with
      | none => simp only [el] at h; exact h.elim
      | some dd =>
        simp only [el] at h
        have ei := getS_some eg
        obtain ⟨v, hv, r0⟩ := S.sr.slot j _ ei
        obtain ⟨ad, vs, rfl, ho, ne, ha, kv⟩ := r0
        obtain ⟨e1, e2⟩ := getLast_parts el
        obtain ⟨w, ew, rw'⟩ := kv.get e2
        obtain ⟨S3, w3⟩ := list_upd S ei hv ho ne kv.dropLast
        refine ⟨_, hv, tyV_list (SqL.of ha), ad, vs, w, rfl, rfl, ha, by rw [kv.length]; exact ew, ?_⟩
        exact h O ρ _ _ S3 w3
    | _ => simp only [eg] at h; exact h.elim
/-- an operator of op= -/
def augOp : Bo → Option Operator
  | .add => some .Add
  | .sub => some .Sub
  | _ => none
theorem ip_aug {o : Bo} {op : Operator} (h : augOp o = some op) : ∃ f, augO o = some f ∧ PIp X op (ipI f) := by
  cases o <;> simp only [augOp] at h <;> cases h
  · exact ⟨_, rfl, ip_add⟩
  · exact ⟨_, rfl, ip_sub⟩
theorem vs_aug {i : Nat} {xx : Str} {o : Bo} {op : Operator} {p4 : Pos} (k : Cok X c C n W) (hl : locB c i xx = true) (hop : augOp o = some op) (he : VE X W e (ev C x)) : VS X W Old (.AugAssign (.Name xx p4) op e pos) (ex C F (.aug i o x)) := by
  obtain ⟨h1, h2, h3⟩ := locB_ok k hl
  obtain ⟨f, ef, hf⟩ := ip_aug (X := X) hop
  refine PS.imp (ps_aug (nd_of k) h1 h2 he hf h3) fun D σ H q => ?_
  obtain ⟨O, ρ, env, m, S, h⟩ := q
  rw [ex] at h
  cases eg : getS env i with
  | none => simp only [eg] at h; exact h.elim
  | some s =>
    cases s with
    | v dd =>
      cases dd with
      | int av =>
        simp only [eg] at h
        obtain ⟨v, hv, r0⟩ := S.sr.slot i _ (getS_some eg)
        have r0' : Rp (bsOf X) O H v (.int av) := r0
        cases r0'
        refine ⟨_, hv, ?_⟩
        refine tV.part S.sr (PgS.expr S h) fun p1 m1 u H1 S1 f1 r1 x1 => ?_
        obtain ⟨dd, fl⟩ := p1
        cases dd with
        | int bv =>
          simp only [ef] at x1
          refine ⟨av, bv, rfl, r1.int, ?_⟩
          have S2 := S.step f1 S1.cell
          exact x1 O ρ _ H1 (S2.put (s := .v (.int (f av bv))) (Rp.int _) (fun z => by cases z)) (.of_fr f1 S.sr.cell.hρ)
        | _ => exact x1.elim
      | _ => simp only [eg] at h; exact h.elim
    | _ => simp only [eg] at h; exact h.elim
/-! ### o[i] op= e -/
def rGetD (X : Cx) : V → V → Hp → VK → Prop := fun x y H Q => (∃ a xs i v, x = .ref a ∧ y = .int i ∧ 0 ≤ i ∧ H a = some (.lst xs) ∧ xs[i.toNat]? = some v ∧ Q v H) ∨
  ∃ O d a xs kvs r, Rp (bsOf X) O H y d ∧ keyOk d = true ∧ x = .ref a ∧ (a == sysModules) = false ∧ Rd H a (dicO (bsOf X) a xs) ∧ (xs.map (·.1)).Nodup ∧ Ens (bsOf X) O H xs kvs ∧ lookD d kvs = some r ∧ ∀ v, Rp (bsOf X) O H v r → Q v H
theorem get_own (k : Cok X c C n W) : PGet X (rGetD X) := by
  intro pins s σ H x y v u Q I rx ry h
  rcases h with ⟨a, xs, i, w, rfl, rfl, h0, hH, hx, q⟩ | ⟨O, d, a, xs, kvs, r, hp, hd, rfl, sm, ha, nd, he, hl, q⟩
  · cases rx
    obtain ⟨t, rfl⟩ := ry
    obtain ⟨its, r, pl, hz⟩ := I.list (SqL.of hH)
    obtain ⟨wv, ew, rw'⟩ := r.get hx
    have hi : i.toNat < its.length := (List.getElem?_eq_some_iff.mp ew).1
    have hn := line63
    have hz2 : xs.length ≤ sizeLine := hz
    have hz3 := r.length
    have hi3 : (i.toNat : Int) = i := Int.toNat_of_nonneg h0
    exact wpAny_getItem_list pl.isList h0 (by omega) (by simpa using ew) ⟨w, H, I, rw', q⟩
  · cases rx
    obtain ⟨kk, b, ek, dp, rfl, rfl, his⟩ := key_is I hd hp ry
    have := ens_at kk he
    rw [ek, hl] at this
    obtain ⟨b', u', v', e', rv, rp⟩ := this
    exact wpAny_getItem_heap k.hu1 his (inv_dictOf I ha nd he) e' ⟨v', H, I.tok _, rv, q v' rp⟩
theorem vs_augIx {i : Nat} {xx : Str} {o : Bo} {op : Operator} {ke : Expr} {p4 : Pos} (k : Cok X c C n W) (h : visB c i xx = true) (hop : augOp o = some op) (hk : VE X W ke (ev C y)) (he : VE X W e (ev C x))
    (ha : ∀ ov iv new, augStore ke ov iv new = (do holding [new, ov, iv] (setItem ov iv new); release [new, ov, iv] []; pure Flow.next)) : VS X W Old (.AugAssign (.Subscript (.Name xx p3) ke p4) op e pos) (ex C F (.augIx i y o x)) := by
  obtain ⟨g1, g2, g3, g4⟩ := visB_ok k h
  obtain ⟨f, ef, hf⟩ := ip_aug (X := X) hop
  refine PS.imp (ps_augS (pe_var g1 g2 g3 g4) hk (get_own k) he hf (PSet.or' set_list (set_dict k)) ha) fun D σ H q => ?_
  obtain ⟨O, ρ, env, m, S, h⟩ := q
  rw [ex] at h
  cases eo : ownS (getS env i) with
  | none => simp only [eo] at h; exact h.elim
  | some s =>
    simp only [eo] at h
    obtain ⟨ei, os⟩ := ownS_some eo
    obtain ⟨vs, hv, r0⟩ := S.sr.slot i s ei
    refine ⟨vs, hv, ?_⟩
    refine tV.part S.sr (PgS.expr S h) fun p1 m1 u H1 S1 f1 r1 x1 => ?_
    obtain ⟨kd, kf⟩ := p1
    have SS1 := S.step f1 S1.cell
    have w1 : Mv Old O ρ H O ρ H1 := .of_fr f1 S.sr.cell.hρ
    cases ed : augR s kd with
    | none => simp only [ed] at x1; exact x1.elim
    | some av =>
        simp only [ed] at x1
        obtain ⟨vs2, hv2, r0'⟩ := SS1.sr.slot i s ei
        rw [hv] at hv2; cases hv2
        -- behind the reading
        have key : tV (bsOf X) X.mg W (ev C x) σ H1 fun yv H4 => ipI f (.int av) yv H4 fun zv H5 => rSetL vs u zv H5 (fun H6 => D.nx σ H6) ∨ rSetD X vs u zv H5 (fun H6 => D.nx σ H6) := by
          refine tV.part SS1.sr (PgS.expr SS1 (PgS.move w1 x1)) fun p2 m2 yv H2 S2 f2 r2 x2 => ?_
          have SS2 := SS1.step f2 S2.cell
          have w2 : Mv Old O ρ H1 O ρ H2 := .of_fr f2 SS1.sr.cell.hρ
          obtain ⟨dd, fl⟩ := p2
          cases dd with
          | int bv =>
            simp only [ef] at x2
            refine ⟨av, bv, rfl, r2.int, ?_⟩
            cases es : storeIx s kd (.int (f av bv)) with
            | none => rw [es] at x2; exact x2.elim
            | some s' =>
              rw [es] at x2
              have r1' : RF (bsOf X) O ρ H H2 u kd kf := r1.go S1.cell.hρ f2
              exact store_ok' SS2 ei os hv es r1' (Rp.int _) fun H3 S3 w3 => x2 O ρ σ H3 S3 (w2.trans w3)
          | _ => exact x2.elim
        have intO_some : ∀ {o : Option PyData} {a : Int}, intO o = some a → o = some (.int a) := fun {o a} h => by
          unfold intO at h
          split at h
          · cases h; rfl
          · cases h
        cases s with
        | o xs =>
          obtain ⟨ad, us, rfl, ho, ne, hH, kv⟩ := r0'
          unfold augR at ed
          split at ed
          · rename_i xs' i0 e1
            cases e1
            split at ed
            · rename_i h0
              have h0 := of_decide_eq_true h0
              obtain ⟨wv, ew, rw'⟩ := kv.get (intO_some ed)
              cases rw'
              have ru : u = .int i0 := RF.int r1
              exact .inl ⟨ad, us, i0, .int av, rfl, ru, h0, hH, ew, key⟩
            · cases ed
          · rename_i e1; cases e1
          · cases ed
        | od kvs =>
          obtain ⟨ad, us, rfl, ho, ne, sm, hH, nd, zz, kv⟩ := r0'
          simp only [augR] at ed
          split at ed
          · rename_i hkk
            obtain ⟨_, ts, et⟩ := keyOk_key hkk
            have rk : Rp (bsOf X) O H1 u kd := by rw [et] at r1 ⊢; exact RF.keepT (H1 := H1) r1
            refine .inr ⟨O, _, ad, us, kvs, .int av, rk, hkk, rfl, sm, .inl hH, nd, kv, intO_some ed, fun v' r' => ?_⟩
            cases r'
            exact key
          · cases ed
        | _ => cases os
end
end Tw
set_option Elab.async false
set_option linter.all false
set_option maxRecDepth 100000
set_option maxHeartbeats 1000000
/-! The keys of a dict, walked. -/
namespace Tw
open PySem PySem.Spec PyProof.Rows L2
/-! ### a dict is locked and unlocked -/
def GoesR (O O' : Hot) (H H' : Hp) : Prop := ∀ b u, (∀ o u', u ≠ HO.frz o u') → ¬ O b → Rd H b u → Rd H' b u ∧ ¬ O' b
theorem GoesR.lst {O O' : Hot} {H H' : Hp} (g : GoesR O O' H H') {b : Addr} {xs : List V} (n : ¬ O b) (r : Rd H b (.lst xs)) : Rd H' b (.lst xs) ∧ ¬ O' b := g b (.lst xs) (fun _ _ z => by cases z) n r
theorem GoesR.tup {O O' : Hot} {H H' : Hp} (g : GoesR O O' H H') {b : Addr} {xs : List V} (n : ¬ O b) (r : Rd H b (.tup xs)) : Rd H' b (.tup xs) ∧ ¬ O' b := g b (.tup xs) (fun _ _ z => by cases z) n r
theorem GoesR.dic {O O' : Hot} {H H' : Hp} (g : GoesR O O' H H') {B : Bs} {b : Addr} {xs : List Ent} (n : ¬ O b) (r : Rd H b (dicO B b xs)) : Rd H' b (dicO B b xs) ∧ ¬ O' b := g b (dicO B b xs) (fun _ _ z => by cases z) n r
section
variable {B : Bs} {mg : Str → Option Value} {W : WX} {Old : Addr → Prop} {O O' : Hot} {ρ ρ' : Option Addr} {σ σ' : L2.St} {H H' : Hp} {env env' : Ev} {m m' : Mu} {d : Addr} {od : Obj} {es : List Ent}
mutual
theorem Rp.goR (g : GoesR O O' H H') : ∀ (d : PyData) (v : V), Rp B O H v d → Rp B O' H' v d
  | .none, _, h => by cases h; exact .non
  | .bool b, _, h => by cases h; exact .bl b
  | .int i, _, h => by cases h; exact .int i
  | .str x, _, h => by cases h; exact .str x
  | .list ds, _, h => by
    cases h with
    | lst n r a => exact .lst (g.lst n r).2 (g.lst n r).1 (Rps.goR g ds _ a)
  | .tuple ds, _, h => by
    cases h with
    | tup n r a => exact .tup (g.tup n r).2 (g.tup n r).1 (Rps.goR g ds _ a)
    | tupK s a => exact .tupK s (Rps.goR g ds _ a)
  | .dict kvs, _, h => by
    cases h with
    | dic n s e nd z a => exact .dic (g.dic n e).2 s (g.dic n e).1 nd z (Ens.goR g kvs _ a)
theorem Rps.goR (g : GoesR O O' H H') : ∀ (ds : List PyData) (vs : List V), Rps B O H vs ds → Rps B O' H' vs ds
  | [], _, h => by cases h; exact .nil
  | d :: ds, _, h => by
    cases h with
    | cons a b => exact .cons (Rp.goR g d _ a) (Rps.goR g ds _ b)
theorem Ens.goR (g : GoesR O O' H H') : ∀ (kvs : List (PyData × PyData)) (xs : List Ent), Ens B O H xs kvs → Ens B O' H' xs kvs
  | [], _, h => by cases h; exact .nil
  | (k, d) :: kvs, _, h => by
    cases h with
    | cons dp a r b c => exact .cons dp (Rp.goR g _ _ a) r (Rp.goR g d _ b) (Ens.goR g kvs _ c)
end
/-- both ways at once: what stands at d is u, locked or not -/
structure Sw (B : Bs) (d : Addr) (es : List Ent) (H H' : Hp) : Prop where
  far : ∀ b, b ≠ d → H' b = H b
  here : ∀ u, (∀ o u', u ≠ HO.frz o u') → Rd H d u → Rd H' d u
  old : ∃ o, H d = some o ∧ (o = dicO B d es ∨ ∃ od, o = .frz od (dicO B d es))
  new : ∃ o, H' d = some o ∧ (o = dicO B d es ∨ ∃ od, o = .frz od (dicO B d es))
theorem sw_lock (h : H d = some (dicO B d es)) : Sw B d es H (upd H d (.frz od (dicO B d es))) where
  far := fun b hb => upd_ne hb
  here := fun u nf r => by
    rcases r with r | ⟨o, r⟩
    · rw [h] at r; cases r; exact .inr ⟨od, upd_same⟩
    · rw [h] at r; cases r
  old := ⟨_, h, .inl rfl⟩
  new := ⟨_, upd_same, .inr ⟨od, rfl⟩⟩
theorem sw_unlock (h : H d = some (.frz od (dicO B d es))) : Sw B d es H (upd H d (dicO B d es)) where
  far := fun b hb => upd_ne hb
  here := fun u nf r => by
    rcases r with r | ⟨o, r⟩
    · rw [h] at r; cases r; exact absurd rfl (nf _ _)
    · rw [h] at r; cases r; exact .inl upd_same
  old := ⟨_, h, .inr ⟨od, rfl⟩⟩
  new := ⟨_, upd_same, .inl rfl⟩
theorem Sw.go (w : Sw B d es H H') : GoesR O O H H' := fun b u nf n r => by
  refine ⟨?_, n⟩
  by_cases hb : b = d
  · subst hb; exact w.here u nf r
  · rcases r with r | ⟨o, r⟩
    · exact .inl (by rw [w.far b hb]; exact r)
    · exact .inr ⟨o, by rw [w.far b hb]; exact r⟩
theorem Sw.ne_lst (w : Sw B d es H H') {b : Addr} {xs : List V} (h : H b = some (.lst xs)) : b ≠ d := fun z => by
  obtain ⟨o, e, q⟩ := w.old
  rw [← z, h] at e; cases e
  rcases q with q | ⟨od, q⟩ <;> cases q
theorem Sw.ne_frz (w : Sw B d es H H') {b : Addr} {o : Obj} {xs : List V} (h : H b = some (.frz o (.lst xs))) : b ≠ d := fun z => by
  obtain ⟨o', e, q⟩ := w.old
  rw [← z, h] at e; cases e
  rcases q with q | ⟨od, q⟩ <;> cases q
theorem Sw.cell (w : Sw B d es H H') (c : Cell B O ρ H m) : Cell B O ρ H' m := by
  cases m with
  | none => exact c
  | some p =>
    obtain ⟨a, q, e1, o, h, sc⟩ := c
    refine ⟨a, q, e1, o, by rw [w.far a (w.ne_lst h)]; exact h, ?_⟩
    rcases sc with ⟨o', sc⟩ | sc
    · exact .inl ⟨o', by rw [w.far q (w.ne_frz sc)]; exact sc⟩
    · exact .inr sc
theorem Sw.sr (w : Sw B d es H H') (nd : ¬ O d) (S : SR B O ρ σ H env m) : SR B O ρ σ H' env m := by
  refine ⟨fun a ha => ?_, fun i s e => ?_, w.cell S.cell, S.len⟩
  · have : a ≠ d := fun z => nd (z ▸ ha)
    rw [w.far a this]; exact S.hot a ha
  · obtain ⟨v, e1, r⟩ := S.slot i s e
    refine ⟨v, e1, ?_⟩
    cases s with
    | v dd => exact Rp.goR w.go _ _ r
    | o xs =>
      obtain ⟨a, vs, q1, q2, q3, q4, q5⟩ := r
      exact ⟨a, vs, q1, q2, q3, by rw [w.far a (fun z => nd (z ▸ q2))]; exact q4, Rps.goR w.go _ _ q5⟩
    | od kvs =>
      obtain ⟨a, xs, q1, q2, q3, sm, q4, nd', z, q5⟩ := r
      exact ⟨a, xs, q1, q2, q3, sm, by rw [w.far a (fun z => nd (z ▸ q2))]; exact q4, nd', z, Ens.goR w.go _ _ q5⟩
    | cell => exact r
    | scr ns =>
      obtain ⟨q, e, r⟩ := r
      refine ⟨q, e, ?_⟩
      rcases r with ⟨ne, o, h⟩ | h
      · exact .inl ⟨ne, o, by rw [w.far q (w.ne_frz h)]; exact h⟩
      · exact .inr h
theorem Sw.ss (w : Sw B d es H H') (nd : ¬ O d) (S : Ss B Old O ρ σ H env m) : Ss B Old O ρ σ H' env m := by
  refine ⟨w.sr nd S.sr, S.own, fun b h => ?_⟩
  by_cases hb : b = d
  · obtain ⟨o, e, _⟩ := w.new; exact ⟨o, hb ▸ e⟩
  · rw [w.far b hb]; exact S.trk b h
/-- behind the locked part all but the lock is as if it had not been -/
theorem mv_unlock (hd : H d = some (dicO B d es)) (nd : ¬ O d) (nρ : ρ ≠ some d) (w : Mv Old O ρ (upd H d (.frz od (dicO B d es))) O' ρ' H') : H' d = some (.frz od (dicO B d es)) ∧ ¬ O' d ∧ Mv Old O ρ H O' ρ' (upd H' d (dicO B d es)) := by
  obtain ⟨h1, h2⟩ := w.cold d _ nd upd_same
  refine ⟨h1, h2, ⟨fun b o nb e => ?_, fun b o old ne e => ?_, w.hot, w.rho⟩⟩
  · by_cases hb : b = d
    · subst hb; rw [hd] at e; cases e; exact ⟨upd_same, h2⟩
    · obtain ⟨q1, q2⟩ := w.cold b o nb (by rw [upd_ne hb]; exact e)
      exact ⟨by rw [upd_ne hb]; exact q1, q2⟩
  · by_cases hb : b = d
    · subst hb; rw [hd] at e; cases e; exact upd_same
    · have := w.old b o old ne (by rw [upd_ne hb]; exact e)
      rw [upd_ne hb]; exact this
def lockD (D : Ends) (d : Addr) (od : Obj) (u : HO) : Ends := ⟨fun σ' H' => H' d = some (.frz od u) ∧ D.nx σ' (upd H' d u), fun v H' => H' d = some (.frz od u) ∧ D.rt v (upd H' d u), fun σ' H' => H' d = some (.frz od u) ∧ D.bk σ' (upd H' d u), fun σ' H' => H' d = some (.frz od u) ∧ D.ct σ' (upd H' d u)⟩
theorem PgS.lock {D : Ends} {x : Out (Flo × Ev)} (hd : H d = some (dicO B d es)) (nd : ¬ O d) (nρ : ρ ≠ some d) (h : PgS B mg W Old O ρ H D x.noex) : PgS B mg W Old O ρ (upd H d (.frz od (dicO B d es))) (lockD D d od (dicO B d es)) x := by
  cases x with
  | ok p m' =>
    obtain ⟨f, env'⟩ := p
    cases f with
    | next =>
      intro O' ρ' σ' H' S w
      obtain ⟨h1, h2, h3⟩ := mv_unlock hd nd nρ w
      exact ⟨h1, h O' ρ' σ' _ ((sw_unlock h1).ss h2 S) h3⟩
    | brk =>
      intro O' ρ' σ' H' S w
      obtain ⟨h1, h2, h3⟩ := mv_unlock hd nd nρ w
      exact ⟨h1, h O' ρ' σ' _ ((sw_unlock h1).ss h2 S) h3⟩
    | ret dd =>
      intro O' ρ' H' u c t w r
      obtain ⟨h1, h2, h3⟩ := mv_unlock hd nd nρ w
      refine ⟨h1, h O' ρ' _ u ((sw_unlock h1).cell c) (fun a ha => ?_) h3 (Rp.goR (sw_unlock h1).go _ _ r)⟩
      have : a ≠ d := fun z => h2 (z ▸ ha)
      rw [upd_ne this]; exact t a ha
  | ex c fs m' => exact h.elim
  | bad => exact h.elim
theorem PgS.noex {D : Ends} {x : Out (Flo × Ev)} (h : PgS B mg W Old O ρ H D x.noex) : PgS B mg W Old O ρ H D x := by
  cases x with
  | ok p m' => exact h
  | ex c fs m' => exact h.elim
  | bad => exact h.elim
end
/-! ### its keys -/
theorem ens_getk {B : Bs} {O : Hot} {H : Hp} : ∀ {xs : List Ent} {kvs : List (PyData × PyData)} {i : Nat} {e : Ent}, Ens B O H xs kvs → xs[i]? = some e → ∃ k, (kvs.map (·.1))[i]? = some k ∧ Rp B O H (.ref e.2.1) k
  | _, _, 0, e, .cons dp a r b c, h => by simp at h; subst h; exact ⟨_, rfl, a⟩
  | _, _, i + 1, e, .cons dp a r b c, h => by
    obtain ⟨k, h1, h2⟩ := ens_getk (i := i) c (by simpa using h)
    exact ⟨k, by simpa using h1, h2⟩
  | _, _, i, e, .nil, h => by simp at h
theorem itr_keys {B : Bs} {O : Hot} {ρ : Option Addr} {H : Hp} {d : Addr} {od : Obj} {es : List Ent} {kvs : List (PyData × PyData)} (hd : H d = some (.frz od (dicO B d es))) (nd : ¬ O d) (k : Ens B O H es kvs) : ItR B (ItkN B d od es) O ρ H .c (kvs.map (·.1)) := by
  have hl : es.length = (kvs.map (·.1)).length := by rw [List.length_map, ens_length k]
  refine ⟨fun O' H' i ok hi => ⟨(ok.1 d _ nd hd).1, by rw [hl]; exact hi⟩, fun O' H' ok => ⟨(ok.1 d _ nd hd).1, hl.symm⟩, fun O' H' i x H2 ok hi y => ?_⟩
  obtain ⟨rfl, e, he, rfl⟩ := y
  obtain ⟨kk, h1, h2⟩ := ens_getk k he
  exact ⟨kk, h1, .inl rfl, fun _ => Rp.go ok.1.goes _ _ h2⟩
section
variable {X : Cx} {W : WX} {Old : Addr → Prop} {c : Ck} {C : Calls} {F : Nat} {n : Nat} {e a b d : Expr} {pos p2 p3 : Pos} {x y z : Ex} {st : Stmt} {rest : List Stmt}
def Lkd (i : Nat) (σ : L2.St) (H : Hp) : Prop := ∃ a od u, σ[i]? = some (some (.ref a)) ∧ H a = some (.frz od u)
def tIL (X : Cx) (W : WX) (C : Calls) (i : Nat) : TI := fun σ H R => tI (bsOf X) X.mg W (evI C (.keys (.var i))) σ H R ∧ Lkd i σ H
/-- the dict of a name -/
theorem keys_slot {C : Calls} {env : Ev} {m : Mu} {i : Nat} {α : Type} {f : List PyData × Fl → Mu → Out α} {P : Out α → Prop} (hb : ¬ P .bad) (h : P ((evI C (.keys (.var i)) env m).bind f)) : ∃ kvs, getS env i = some (.v (.dict kvs)) ∧ P (f (kvs.map (·.1), .c) m) := by
  rw [evI, ev] at h
  cases eg : getS env i with
  | none => simp only [eg] at h; exact absurd h hb
  | some s =>
    cases s with
    | v dd =>
      simp only [eg, Out.bind_ok] at h
      cases dd with
      | dict kvs => exact ⟨kvs, rfl, h⟩
      | _ => exact absurd h hb
    | o xs => simp only [eg, Out.bind_ok] at h; exact absurd h hb
    | od kvs => simp only [eg, Out.bind_ok] at h; exact absurd h hb
    | _ => simp only [eg] at h; exact absurd h hb
theorem pi_keysL {tg : Expr} {i : Nat} {xx : Str} {apos : Pos} (k : Cok X c C n W) (h : visB c i xx = true) (hbase : attributeBase (.Name xx p3) "keys" X.env (eval (.Name xx p3) X.env) = eval (.Name xx p3) X.env) (hline : (apos.endLine == p2.line) = true) :
    PI X tg (.Call (.Attribute (.Name xx p3) "keys" apos) [] [] p2) (tIL X W C i) := by
  obtain ⟨g1, g2, g3, g4⟩ := visB_ok k h
  refine PI.imp (pi_keysN (pe_var g1 g2 g3 g4) hbase hline) fun σ H R q => ?_
  obtain ⟨⟨O, ρ, env, m, S, h⟩, a, od, u, hs, hf⟩ := q
  have bind_id : ∀ x : Out (List PyData × Fl), x = x.bind fun p m => .ok p m := fun x => by cases x <;> rfl
  rw [bind_id (evI C (.keys (.var i)) env m)] at h
  obtain ⟨kvs, eg, h⟩ := keys_slot (P := Pg _ σ H _) (fun z => z) h
  obtain ⟨v, hv, r0⟩ := S.slot i _ (getS_some eg)
  rw [hs] at hv; cases hv
  have r0' : Rp (bsOf X) O H (.ref a) (.dict kvs) := r0
  cases r0' with
  | @dic _ es _ no sm rd nd zz ens =>
    have hfz : H a = some (.frz od (dicO (bsOf X) a es)) := by
      rcases rd with rd | ⟨o, rd⟩
      · rw [hf] at rd; cases rd
      · rw [hf] at rd; cases rd; exact hf
    exact ⟨_, hs, a, od, es, rfl, sm, hfz, h _ H (.refl _ _) S.cell (itr_keys hfz no ens)⟩
theorem PS.or' {st : Stmt} {t u : TS} (h : PS X st t) (h' : PS X st u) : PS X st (fun D σ H => t D σ H ∨ u D σ H) := ⟨fun pins s σ H D I q => q.elim (h.run pins s σ H D I) (h'.run pins s σ H D I)⟩
theorem PE.or' {e : Expr} {t u : TE} (h : PE X e t) (h' : PE X e u) : PE X e (fun σ H Q => t σ H Q ∨ u σ H Q) := ⟨fun pins s σ H Q I q => q.elim (h.run pins s σ H Q I) (h'.run pins s σ H Q I)⟩
/-- for x in d.keys() -/
theorem vs_forK {tgE : Expr} {body : List Stmt} {tg : Tg} {bd : Sms} {i : Nat} {xx : Str} {apos : Pos} (k : Cok X c C n W) (hp : PassesOwn (model X.prog X.w) X.A X.env X.xe) (h : visB c i xx = true) (hbase : attributeBase (.Name xx p3) "keys" X.env (eval (.Name xx p3) X.env) = eval (.Name xx p3) X.env) (hline : (apos.endLine == p2.line) = true)
    (hs : ∀ x, foldedSetIterable (.Call (.Attribute (.Name xx p3) "keys" apos) [] [] p2) X.env x = pure x) (hg : PG X tgE (gB (bsOf X) tg)) (hb : VSs X W Old body (exs C F bd)) :
    VS X W Old (.For tgE (.Call (.Attribute (.Name xx p3) "keys" apos) [] [] p2) body [] pos) (ex C F (.for tg (.keys (.var i)) bd)) := by
  have base := ps_for (pos := pos) hp k.calm (pi_keysL (tg := tgE) k h hbase hline) hg hb hs
  -- with the dict locked
  have core : ∀ {O : Hot} {ρ : Option Addr} {env : Ev} {m : Mu} {D : Ends} {σ : L2.St} {H : Hp} {kvs : List (PyData × PyData)}, Ss (bsOf X) Old O ρ σ H env m → getS env i = some (.v (.dict kvs)) → Lkd i σ H → PgS (bsOf X) X.mg W Old O ρ H D (forL (fbody C F tg bd) (kvs.map (·.1)) env m) →
      tFor (tIL X W C i) (gB (bsOf X) tg) (tS (bsOf X) X.mg W Old (exs C F bd)) D σ H := fun {O ρ env m D σ H kvs} S eg lk hx => by
    refine ⟨⟨O, ρ, env, m, S.sr, ?_⟩, lk⟩
    rw [evI, ev, eg]
    exact fun J H1 f1 c1 IT => for_main IT (by simp [joinF]) (S.step f1 c1) (PgS.move (.of_fr f1 S.sr.cell.hρ) hx)
  refine PS.imp (PS.or' (ps_lock base) base) fun D σ H q => ?_
  obtain ⟨O, ρ, env, m, S, h⟩ := q
  rw [ex] at h
  obtain ⟨kvs, eg, h⟩ := keys_slot (P := PgS (bsOf X) X.mg W Old O ρ H D) (fun z => z) h
  obtain ⟨v, hv, r0⟩ := S.sr.slot i _ (getS_some eg)
  have r0' : Rp (bsOf X) O H v (.dict kvs) := r0
  have h' : PgS (bsOf X) X.mg W Old O ρ H D (forL (fbody C F tg bd) (kvs.map (·.1)) env m).noex := h
  cases r0' with
  | @dic a es _ no sm rd nd zz ens =>
    rcases rd with rd | ⟨od, rd⟩
    · refine .inl ⟨a, _, rd, trivial, fun od => ?_⟩
      have nρ : ρ ≠ some a := fun z => no (S.sr.cell.hρ a z)
      exact core ((sw_lock rd).ss no S) eg ⟨a, od, _, hv, upd_same⟩ (PgS.lock rd no nρ h')
    · exact .inr (core S eg ⟨a, od, _, hv, rd⟩ (PgS.noex h'))
/-- [.. for x in d.keys() ..] -/
theorem tV_lock {f : EvF} {i : Nat} {e : Expr} (h : PE X e fun σ H Q => tV (bsOf X) X.mg W f σ H Q ∧ Lkd i σ H) (hf : ∀ env m, (∃ p m', f env m = .ok p m' ∧ ∃ kvs, getS env i = some (.v (.dict kvs))) ∨ f env m = .bad) : VE X W e f := by
  refine PE.imp (PE.or' (pe_lock h) h) fun σ H Q q => ?_
  obtain ⟨O, ρ, env, m, S, h⟩ := q
  rcases hf env m with ⟨p, m', e1, kvs, eg⟩ | e1
  · rw [e1] at h
    obtain ⟨v, hv, r0⟩ := S.slot i _ (getS_some eg)
    have r0' : Rp (bsOf X) O H v (.dict kvs) := r0
    cases r0' with
    | @dic a es _ no sm rd nd zz ens =>
      rcases rd with rd | ⟨od, rd⟩
      · refine .inl ⟨a, _, rd, trivial, fun od => ?_⟩
        have nρ : ρ ≠ some a := fun z => no (S.cell.hρ a z)
        refine ⟨⟨O, ρ, env, m, (sw_lock rd).sr no S, ?_⟩, a, od, _, hv, upd_same⟩
        rw [e1]
        intro w H2 f2 c2 r2
        have h2 : H2 a = some (.frz od (dicO (bsOf X) a es)) := f2 a _ nρ upd_same
        have sw := sw_unlock h2
        refine ⟨h2, h w _ (fun b o ne e => ?_) (sw.cell c2) ?_⟩
        · by_cases hb : b = a
          · subst hb; rw [rd] at e; cases e; exact upd_same
          · rw [upd_ne hb]; exact f2 b o ne (by rw [upd_ne hb]; exact e)
        · have r2' : RF (bsOf X) O ρ (upd H a (.frz od (dicO (bsOf X) a es))) H2 w p.1 p.2 := r2
          obtain ⟨pd, pf⟩ := p
          cases pf with
          | c => exact Rp.goR sw.go _ _ r2'
          | b =>
            obtain ⟨q, rfl, ne, k⟩ := r2'
            refine ⟨q, rfl, ne, ?_⟩
            cases k with
            | lst r k =>
              refine .lst ?_ (Rps.goR sw.go _ _ k)
              by_cases hb : q = a
              · subst hb; exact sw.here _ (fun _ _ z => nomatch z) r
              · rcases r with r | ⟨o, r⟩
                · exact .inl (by rw [upd_ne hb]; exact r)
                · exact .inr ⟨o, by rw [upd_ne hb]; exact r⟩
            | dic s r n z k =>
              refine .dic s ?_ n z (Ens.goR sw.go _ _ k)
              by_cases hb : q = a
              · subst hb; exact sw.here _ (fun _ _ z => nomatch z) r
              · rcases r with r | ⟨o, r⟩
                · exact .inl (by rw [upd_ne hb]; exact r)
                · exact .inr ⟨o, by rw [upd_ne hb]; exact r⟩
          | f =>
            obtain ⟨q, rfl, ne, n0, k⟩ := r2'
            have hqa : q ≠ a := fun z => by rw [z, upd_same] at n0; cases n0
            refine ⟨q, rfl, ne, by rw [upd_ne hqa] at n0; exact n0, ?_⟩
            cases k with
            | lst r k => exact .lst (by rw [upd_ne hqa]; exact r) (Rps.goR sw.go _ _ k)
            | dic s r n z k => exact .dic s (by rw [upd_ne hqa]; exact r) n z (Ens.goR sw.go _ _ k)
      · exact .inr ⟨⟨O, ρ, env, m, S, by rw [e1]; exact h⟩, a, od, _, hv, rd⟩
  · rw [e1] at h; exact h.elim
theorem comp_noex {i : Nat} {env : Ev} {m : Mu} {g : PyData → Mu → Out (Option PyData)} : (∃ p m', ((evI C (.keys (.var i)) env m).bind fun xs m => (lcLoop g xs.1 m).bind fun ds m => if sz ds.length = true then (.ok (.list ds, .f) m : Out (PyData × Fl)) else .bad) = .ok p m' ∧ ∃ kvs, getS env i = some (.v (.dict kvs))) ∨ ((evI C (.keys (.var i)) env m).bind fun xs m => (lcLoop g xs.1 m).bind fun ds m => if sz ds.length = true then (.ok (.list ds, .f) m : Out (PyData × Fl)) else .bad) = .bad := by
  rw [evI, ev]
  cases eg : getS env i with
  | none => exact .inr rfl
  | some s =>
    cases s with
    | v dd =>
      cases dd with
      | dict kvs =>
        have fin : ∀ (xs : List PyData), (∃ p m', ((lcLoop g xs m).bind fun ds m => if sz ds.length = true then (.ok (.list ds, .f) m : Out (PyData × Fl)) else .bad) = .ok p m') ∨ ((lcLoop g xs m).bind fun ds m => if sz ds.length = true then (.ok (.list ds, .f) m : Out (PyData × Fl)) else .bad) = .bad := fun xs => by
          rcases lcLoop_noex g xs m with ⟨ds, m', e⟩ | e
          · rw [e]
            by_cases hz : sz ds.length = true
            · exact .inl ⟨_, m', by simp [Out.bind, hz]; rfl⟩
            · exact .inr (by simp [Out.bind, hz])
          · rw [e]; exact .inr rfl
        rcases fin (kvs.map (·.1)) with ⟨p, m', e⟩ | e
        · exact .inl ⟨p, m', e, kvs, rfl⟩
        · exact .inr e
      | _ => exact .inr rfl
    | o xs => exact .inr rfl
    | od kvs => exact .inr rfl
    | _ => exact .inr rfl
theorem ve_comp0K {scope : Scope} {own : List (Str × Nat)} {tgE iterE eltE : Expr} {tg : Tg} {i : Nat} {elt : Ex} (k : Cok X c C n W) (hit : PI X tgE iterE (tIL X W C i)) (blk : BlkOk X.N X.env.scope scope own)
    (htg : ∀ (s : Shared) (H : Hp) (Ca : Addr) (cl : List (Str × Addr)) (fp : List Addr), PG (X.blk s H scope (compEnvC scope cl Ca X.env) fp) tgE (gB (bsOf X) tg))
    (helt : ∀ (s : Shared) (H : Hp) (Ca : Addr) (cl : List (Str × Addr)) (fp : List Addr), PE (X.blk s H scope (compEnvC scope cl Ca X.env) fp) eltE (tV (bsOf X) X.mg W0 (ev C elt)))
    (fold : ∀ x, foldedSetIterable iterE X.env x = pure x) (ixs : ∀ i ∈ ixG tg, i ∈ own.map (·.2)) : VE X W (.ListComp eltE [⟨tgE, iterE, [], 0⟩] scope pos) (ev C (.comp0 elt tg (.keys (.var i)) (own.map (·.2)))) :=
  tV_lock (i := i) (PE.imp (pe_lc k.calm (nd_of k) hit blk htg (fun s H Ca cl fp => pts_nil) helt fold) fun σ H Q q => ⟨tLc_comp0 ixs q.1, q.2⟩) fun env m => by rw [ev]; exact comp_noex
theorem ve_comp1K {scope : Scope} {own : List (Str × Nat)} {tgE iterE eltE condE : Expr} {tg : Tg} {i : Nat} {elt cond : Ex} (k : Cok X c C n W) (hit : PI X tgE iterE (tIL X W C i)) (blk : BlkOk X.N X.env.scope scope own)
    (htg : ∀ (s : Shared) (H : Hp) (Ca : Addr) (cl : List (Str × Addr)) (fp : List Addr), PG (X.blk s H scope (compEnvC scope cl Ca X.env) fp) tgE (gB (bsOf X) tg))
    (helt : ∀ (s : Shared) (H : Hp) (Ca : Addr) (cl : List (Str × Addr)) (fp : List Addr), PE (X.blk s H scope (compEnvC scope cl Ca X.env) fp) eltE (tV (bsOf X) X.mg W0 (ev C elt)))
    (fold : ∀ x, foldedSetIterable iterE X.env x = pure x) (ixs : ∀ i ∈ ixG tg, i ∈ own.map (·.2))
    (hc : ∀ (s : Shared) (H : Hp) (Ca : Addr) (cl : List (Str × Addr)) (fp : List Addr), PT (X.blk s H scope (compEnvC scope cl Ca X.env) fp) condE (tT (bsOf X) X.mg W0 (ev C cond))) : VE X W (.ListComp eltE [⟨tgE, iterE, [condE], 0⟩] scope pos) (ev C (.comp1 elt tg (.keys (.var i)) cond (own.map (·.2)))) :=
  tV_lock (i := i) (PE.imp (pe_lc k.calm (nd_of k) hit blk htg (fun s H Ca cl fp => pts_one (hc s H Ca cl fp)) helt fold) fun σ H Q q => ⟨tLc_comp1 ixs q.1, q.2⟩) fun env m => by rw [ev]; exact comp_noex
end
end Tw
set_option Elab.async false
set_option linter.all false
set_option maxRecDepth 100000
set_option maxHeartbeats 1000000
/-! The checker of expressions. -/
namespace Tw
open PySem PySem.Spec PyProof.Rows L2
def nbase (o : Expr) : Bool := match o with
  | .Call (.Name _ _) [] [] _ => false
  | _ => true
theorem nbase_ok {o : Expr} (h : nbase o = true) (attr : Str) (env : Env) (whole : Sem Value) : attributeBase o attr env whole = whole := by
  cases o with
  | Call f as ks p =>
    cases f with
    | Name id p2 =>
      cases as with
      | nil =>
        cases ks with
        | nil => simp [nbase] at h
        | cons k ks => rfl
      | cons a as => rfl
    | _ => rfl
  | _ => rfl
def noSet (e : Expr) : Bool := match e with
  | .Set .. => false
  | _ => true
theorem fold_ok {e : Expr} (h : noSet e = true) (env : Env) : ∀ x, foldedSetIterable e env x = pure x := fun x => by
  cases e <;> first | rfl | cases h
theorem mark_ok {op : CmpOp} {e : Expr} (h : noSet e = true) : behindInMarks op e = false := by
  cases e <;> first | rfl | cases h
def noIf (e : Expr) : Bool := match e with
  | .IfExp .. => false
  | .BoolOp .. => false
  | .Compare .. => false
  | .UnaryOp .. => false
  | _ => true
theorem noIf_ok {e : Expr} (h : noIf e = true) (env : Env) : ∀ whole, isTrue e env whole = (do let v ← whole; standAt e.pos; holding [v] (truthy v)) := fun whole => by
  cases e <;> first | rfl | cases h
theorem few1 {b : Expr} {env : Env} {pos : Pos} (h : noStar b = true) : ((backTo pos (starEach [b] env)).all (fun x => !x.1) && (backToKw pos (keywordEach [] env)).all (fun x => x.1.isSome) && decide (([b] : List Expr).length + ([] : List Keyword).length + (if ([] : List Keyword).isEmpty then 0 else 1) < 30)) = true := by
  rw [star1 h]; rfl
theorem few2 {a b : Expr} {env : Env} {pos : Pos} (h : noStar a = true) (h2 : noStar b = true) : ((backTo pos (starEach [a, b] env)).all (fun x => !x.1) && (backToKw pos (keywordEach [] env)).all (fun x => x.1.isSome) && decide (([a, b] : List Expr).length + ([] : List Keyword).length + (if ([] : List Keyword).isEmpty then 0 else 1) < 30)) = true := by
  rw [star_ok h, star1 h2]; rfl
theorem tr2 {a b : Expr} {env : Env} {pos : Pos} (h : noStar a = true) (h2 : noStar b = true) : backTo pos (starEach [a, b] env) = [(false, eval a env), (false, eval b env)] := by
  rw [star_ok h, star1 h2]; rfl
def noSlice (b : Expr) : Bool := match b with
  | .Slice .. => false
  | _ => true
def noStars : List Expr → Bool
  | [] => true
  | e :: es => noStar e && noStars es
theorem noStars_any : ∀ {es : List Expr} (env : Env) (pos : Pos), noStars es = true → (backTo pos (starEach es env)).any (·.1) = false
  | [], env, pos, _ => rfl
  | e :: es, env, pos, h => by
    simp only [noStars, Bool.and_eq_true] at h
    rw [star_ok h.1]
    have := noStars_any (es := es) env pos h.2
    unfold backTo at this ⊢
    simpa using this
def opB (o : Bo) (op : Operator) : Bool := match o, op with
  | .add, .Add => true
  | .sub, .Sub => true
  | .mul, .Mult => true
  | .fdiv, .FloorDiv => true
  | .mod, .Mod => true
  | .pow, .Pow => true
  | .shl, .LShift => true
  | _, _ => false
def opCo (o : Co) (op : CmpOp) : Bool := match o, op with
  | .eq, .Eq => true
  | .ne, .NotEq => true
  | .lt, .Lt => true
  | .le, .LtE => true
  | .gt, .Gt => true
  | .ge, .GtE => true
  | .isin, .In => true
  | .notin, .NotIn => true
  | .isb, .Is => true
  | .isnb, .IsNot => true
  | _, _ => false
def ordCo (o : Co) (op : CmpOp) : Bool := match o, op with
  | .lt, .Lt => true
  | .le, .LtE => true
  | .gt, .Gt => true
  | .ge, .GtE => true
  | _, _ => false
def nmIs (e : Expr) (x : Str) : Bool := match e with
  | .Name y _ => decide (y = x)
  | _ => false
theorem nmIs_ok {e : Expr} {x : Str} (h : nmIs e x = true) : ∃ p, e = .Name x p := by
  cases e with
  | Name y p => simp [nmIs] at h; subst h; exact ⟨p, rfl⟩
  | _ => cases h
def litB (d : PyData) (k : Const) : Bool := match d, k with
  | .int i, .int j => decide (i = j)
  | .bool i, .bool j => i == j
  | .none, .none => true
  | .str x, .str y => decide (x = y)
  | _, _ => false
def isC0 (e : Expr) (n : Int) : Bool := match e with
  | .Constant (.int k) _ _ => decide (k = n)
  | _ => false
theorem isC0_ok {e : Expr} {n : Int} (h : isC0 e n = true) : ∃ j p, e = .Constant (.int n) j p := by
  cases e with
  | Constant v j p =>
    cases v <;> first | (cases h; done) | skip
    rename_i k
    simp [isC0] at h
    subst h
    exact ⟨j, p, rfl⟩
  | _ => cases h
/-- the cell's name, behind which the script lies -/
def scrB (c : Ck) (i : Nat) (e : Expr) : Bool := match e with
  | .Subscript (.Name x _) k _ => visB c i x && isC0 k 0
  | _ => false
theorem scrB_ok {c : Ck} {i : Nat} {e : Expr} (h : scrB c i e = true) : ∃ x p1 j p2 p3, e = .Subscript (.Name x p1) (.Constant (.int 0) j p2) p3 ∧ visB c i x = true := by
  unfold scrB at h
  split at h
  · rename_i x p1 k p3
    simp only [Bool.and_eq_true] at h
    obtain ⟨j, p2, rfl⟩ := isC0_ok h.2
    exact ⟨x, p1, j, p2, p3, rfl, h.1⟩
  · cases h
def asName : Expr → Option Str
  | .Name x _ => some x
  | _ => none
def asTup : Expr → Option (List Expr)
  | .Tuple es _ _ => some es
  | _ => none
theorem asName_ok {e : Expr} {x : Str} (h : asName e = some x) : ∃ p, e = .Name x p := by
  cases e <;> simp [asName] at h
  subst h; exact ⟨_, rfl⟩
theorem asTup_ok {e : Expr} {es : List Expr} (h : asTup e = some es) : ∃ k p, e = .Tuple es k p := by
  cases e <;> simp [asTup] at h
  subst h; exact ⟨_, _, rfl⟩
mutual
/-- a target -/
def mG (c : Ck) : Tg → Expr → Bool
  | .n i, e => (asName e).elim false fun x => locB c i x
  | .t ts, e => (asTup e).elim false fun es => mGs c ts es
def mGs (c : Ck) : Tgs → List Expr → Bool
  | .nil, es => es.isEmpty
  | .cons t r, es => es.head?.elim false fun e => noStar e && (mG c t e && mGs c r es.tail)
end
section
variable {X : Cx} {W : WX} {c : Ck} {C : Calls} {n : Nat}
theorem asg_map {e : Expr} {es : List Expr} {env : Env} (h : noStar e = true) : (assignEach (e :: es) env) = (false, assign e env) :: assignEach es env := by
  cases e <;> first | rfl | cases h
theorem mGs_len : ∀ (ts : Tgs) (es : List Expr) (env : Env), mGs c ts es = true → (assignEach es env).length = lenG ts ∧ (assignEach es env).findIdx? (·.1) = none
  | .nil, es, env, h => by
    cases es with
    | nil => exact ⟨rfl, rfl⟩
    | cons e es => rw [mGs] at h; cases h
  | .cons t r, es, env, h => by
    cases es with
    | nil => rw [mGs] at h; cases h
    | cons e es =>
      rw [mGs] at h
      simp only [List.head?_cons, Option.elim, List.tail_cons, Bool.and_eq_true] at h
      obtain ⟨h1, h2⟩ := mGs_len r es env h.2.2
      rw [asg_map h.1]
      refine ⟨by simp [lenG, h1], ?_⟩
      rw [List.findIdx?_cons]
      simp [h2]
mutual
theorem mG_ok (k : Cok X c C n W) : ∀ (t : Tg) (e : Expr), mG c t e = true → PG X e (gB (bsOf X) t)
  | .n i, e, h => by
    rw [mG] at h
    cases e1 : asName e with
    | none => rw [e1] at h; cases h
    | some x =>
      rw [e1] at h
      obtain ⟨p, rfl⟩ := asName_ok e1
      exact vg_name k h
  | .t ts, e, h => by
    rw [mG] at h
    cases e1 : asTup e with
    | none => rw [e1] at h; cases h
    | some es =>
      rw [e1] at h
      obtain ⟨kk, p, rfl⟩ := asTup_ok e1
      obtain ⟨h1, h2⟩ := mGs_len ts es X.env h
      exact vg_tup k h1 h2 (mGs_ok k ts es h)
theorem mGs_ok (k : Cok X c C n W) : ∀ (ts : Tgs) (es : List Expr), mGs c ts es = true → PGs X es (gBs (bsOf X) ts)
  | .nil, es, h => by
    cases es with
    | nil => exact vgs_nil
    | cons e es => rw [mGs] at h; cases h
  | .cons t r, es, h => by
    cases es with
    | nil => rw [mGs] at h; cases h
    | cons e es =>
      rw [mGs] at h
      simp only [List.head?_cons, Option.elim, List.tail_cons, Bool.and_eq_true] at h
      exact vgs_cons (by rw [asg_map h.1]; rfl) (mG_ok k t e h.2.1) (mGs_ok k r es h.2.2)
end
end
end Tw
set_option Elab.async false
set_option linter.all false
set_option maxRecDepth 100000
set_option maxHeartbeats 2000000
/-! The checker of expressions: shapes. -/
namespace Tw
open PySem PySem.Spec PyProof.Rows L2
def shBin (o : Bo) : Expr → Option (Expr × Expr)
  | .BinOp a op b _ => if opB o op then some (a, b) else none
  | _ => none
theorem shBin_ok {o : Bo} {e : Expr} {p : Expr × Expr} (h : shBin o e = some p) : ∃ op pos, e = .BinOp p.1 op p.2 pos ∧ opB o op = true := by
  unfold shBin at h
  split at h
  · split at h
    · rename_i h2; cases h; exact ⟨_, _, rfl, h2⟩
    · cases h
  · cases h
def shUSub : Expr → Option Expr
  | .UnaryOp .USub a _ => some a
  | _ => none
def shNot : Expr → Option Expr
  | .UnaryOp .Not a _ => some a
  | _ => none
theorem shUSub_ok {e a : Expr} (h : shUSub e = some a) : ∃ pos, e = .UnaryOp .USub a pos := by
  unfold shUSub at h
  split at h
  · cases h; exact ⟨_, rfl⟩
  · cases h
theorem shNot_ok {e a : Expr} (h : shNot e = some a) : ∃ pos, e = .UnaryOp .Not a pos := by
  unfold shNot at h
  split at h
  · cases h; exact ⟨_, rfl⟩
  · cases h
def shCmp (o : Co) : Expr → Option (Expr × Expr)
  | .Compare a [op] [b] _ => if opCo o op && noSet b then some (a, b) else none
  | _ => none
theorem shCmp_ok {o : Co} {e : Expr} {p : Expr × Expr} (h : shCmp o e = some p) : ∃ op pos, e = .Compare p.1 [op] [p.2] pos ∧ opCo o op = true ∧ noSet p.2 = true := by
  unfold shCmp at h
  split at h
  · split at h
    · rename_i h2; cases h; simp only [Bool.and_eq_true] at h2; exact ⟨_, _, rfl, h2.1, h2.2⟩
    · cases h
  · cases h
def shChain (o p : Co) : Expr → Option (Expr × Expr × Expr)
  | .Compare a [op, op2] [b, d] _ => if ordCo o op && (ordCo p op2 && noSet d) then some (a, b, d) else none
  | _ => none
theorem shChain_ok {o p : Co} {e : Expr} {q : Expr × Expr × Expr} (h : shChain o p e = some q) : ∃ op op2 pos, e = .Compare q.1 [op, op2] [q.2.1, q.2.2] pos ∧ ordCo o op = true ∧ ordCo p op2 = true ∧ noSet q.2.2 = true := by
  unfold shChain at h
  split at h
  · split at h
    · rename_i h2; cases h; simp only [Bool.and_eq_true] at h2; exact ⟨_, _, _, rfl, h2.1, h2.2.1, h2.2.2⟩
    · cases h
  · cases h
def shIsN : Expr → Option Expr
  | .Compare a [.Is] [.Constant .none _ _] _ => some a
  | _ => none
theorem shIsN_ok {e a : Expr} (h : shIsN e = some a) : ∃ j p pos, e = .Compare a [.Is] [.Constant .none j p] pos := by
  unfold shIsN at h
  split at h
  · cases h; exact ⟨_, _, _, rfl⟩
  · cases h
def shNotN : Expr → Option Expr
  | .Compare a [.IsNot] [.Constant .none _ _] _ => some a
  | _ => none
theorem shNotN_ok {e a : Expr} (h : shNotN e = some a) : ∃ j p pos, e = .Compare a [.IsNot] [.Constant .none j p] pos := by
  unfold shNotN at h
  split at h
  · cases h; exact ⟨_, _, _, rfl⟩
  · cases h
/-- a and b and ..: the first and the others -/
def shAnd : Expr → Option (Expr × Expr)
  | .BoolOp .And (a :: b :: rest) p => some (a, match rest with | [] => b | _ :: _ => .BoolOp .And (b :: rest) p)
  | _ => none
def shOr : Expr → Option (Expr × Expr)
  | .BoolOp .Or (a :: b :: rest) p => some (a, match rest with | [] => b | _ :: _ => .BoolOp .Or (b :: rest) p)
  | _ => none
theorem shAnd_ok {e : Expr} {q : Expr × Expr} (h : shAnd e = some q) : ∃ b rest p, e = .BoolOp .And (q.1 :: b :: rest) p ∧ ((rest = [] ∧ q.2 = b) ∨ q.2 = .BoolOp .And (b :: rest) p) := by
  unfold shAnd at h
  split at h
  · rename_i a b rest p
    cases h
    refine ⟨b, rest, p, rfl, ?_⟩
    cases rest with
    | nil => exact .inl ⟨rfl, rfl⟩
    | cons r rs => exact .inr rfl
  · cases h
theorem shOr_ok {e : Expr} {q : Expr × Expr} (h : shOr e = some q) : ∃ b rest p, e = .BoolOp .Or (q.1 :: b :: rest) p ∧ ((rest = [] ∧ q.2 = b) ∨ q.2 = .BoolOp .Or (b :: rest) p) := by
  unfold shOr at h
  split at h
  · rename_i a b rest p
    cases h
    refine ⟨b, rest, p, rfl, ?_⟩
    cases rest with
    | nil => exact .inl ⟨rfl, rfl⟩
    | cons r rs => exact .inr rfl
  · cases h
def shIte : Expr → Option (Expr × Expr × Expr)
  | .IfExp d a b _ => some (d, a, b)
  | _ => none
theorem shIte_ok {e : Expr} {q : Expr × Expr × Expr} (h : shIte e = some q) : ∃ p, e = .IfExp q.1 q.2.1 q.2.2 p := by
  unfold shIte at h
  split at h
  · cases h; exact ⟨_, rfl⟩
  · cases h
def shIx : Expr → Option (Expr × Expr)
  | .Subscript a b _ => if noSlice b then some (a, b) else none
  | _ => none
theorem shIx_ok {e : Expr} {q : Expr × Expr} (h : shIx e = some q) : ∃ p, e = .Subscript q.1 q.2 p ∧ noSlice q.2 = true := by
  unfold shIx at h
  split at h
  · split at h
    · rename_i h2; cases h; exact ⟨_, rfl, h2⟩
    · cases h
  · cases h
def shSl : Expr → Option (Expr × Option Expr × Option Expr)
  | .Subscript a (.Slice lo hi none _) _ => some (a, lo, hi)
  | _ => none
theorem shSl_ok {e : Expr} {q : Expr × Option Expr × Option Expr} (h : shSl e = some q) : ∃ p p2, e = .Subscript q.1 (.Slice q.2.1 q.2.2 none p) p2 := by
  unfold shSl at h
  split at h
  · cases h; exact ⟨_, _, rfl⟩
  · cases h
/-- f(a), f a built-in's name that is not stored -/
def shC1 (c : Ck) (nm : Str) : Expr → Option Expr
  | .Call (.Name y _) [a] [] _ => if decide (y = nm) && (glB c nm && noStar a) then some a else none
  | _ => none
theorem shC1_ok {c : Ck} {nm : Str} {e a : Expr} (h : shC1 c nm e = some a) : ∃ p p2, e = .Call (.Name nm p) [a] [] p2 ∧ glB c nm = true ∧ noStar a = true := by
  unfold shC1 at h
  split at h
  · split at h
    · rename_i h2
      cases h
      simp only [Bool.and_eq_true, decide_eq_true_eq] at h2
      obtain ⟨rfl, h3, h4⟩ := h2
      exact ⟨_, _, rfl, h3, h4⟩
    · cases h
  · cases h
def shC2 (c : Ck) (nm : Str) : Expr → Option (Expr × Expr)
  | .Call (.Name y _) [a, b] [] _ => if decide (y = nm) && (glB c nm && (noStar a && noStar b)) then some (a, b) else none
  | _ => none
theorem shC2_ok {c : Ck} {nm : Str} {e : Expr} {q : Expr × Expr} (h : shC2 c nm e = some q) : ∃ p p2, e = .Call (.Name nm p) [q.1, q.2] [] p2 ∧ glB c nm = true ∧ noStar q.1 = true ∧ noStar q.2 = true := by
  unfold shC2 at h
  split at h
  · split at h
    · rename_i h2
      cases h
      simp only [Bool.and_eq_true, decide_eq_true_eq] at h2
      obtain ⟨rfl, h3, h4, h5⟩ := h2
      exact ⟨_, _, rfl, h3, h4, h5⟩
    · cases h
  · cases h
/-- o.m(args) -/
def shM (m : Str) : Expr → Option (Expr × List Expr)
  | .Call (.Attribute o y ap) as [] p => if decide (y = m) && (nbase o && ((ap.endLine == p.line) && noStars as)) then some (o, as) else none
  | _ => none
theorem shM_ok {m : Str} {e : Expr} {q : Expr × List Expr} (h : shM m e = some q) : ∃ ap p, e = .Call (.Attribute q.1 m ap) q.2 [] p ∧ nbase q.1 = true ∧ (ap.endLine == p.line) = true ∧ noStars q.2 = true := by
  unfold shM at h
  split at h
  · split at h
    · rename_i h2
      cases h
      simp only [Bool.and_eq_true, decide_eq_true_eq] at h2
      obtain ⟨rfl, h3, h4, h5⟩ := h2
      exact ⟨_, _, rfl, h3, h4, h5⟩
    · cases h
  · cases h
def shIsi (c : Ck) (T : Str) (e : Expr) : Option Expr := (shC2 c "isinstance" e).bind fun q => if nmIs q.2 T && glB c T then some q.1 else none
def isTL (c : Ck) (e : Expr) : Bool := match e with
  | .Tuple [a, b] _ _ => nmIs a "tuple" && (nmIs b "list" && (glB c "tuple" && glB c "list"))
  | _ => false
theorem isTL_ok {c : Ck} {e : Expr} (h : isTL c e = true) : ∃ p q k r, e = .Tuple [.Name "tuple" p, .Name "list" q] k r ∧ glB c "tuple" = true ∧ glB c "list" = true := by
  unfold isTL at h
  split at h
  · simp only [Bool.and_eq_true] at h
    obtain ⟨p, rfl⟩ := nmIs_ok h.1
    obtain ⟨q, rfl⟩ := nmIs_ok h.2.1
    exact ⟨p, q, _, _, rfl, h.2.2.1, h.2.2.2⟩
  · cases h
def shB1 (c : Ck) (f : B1) (e : Expr) : Option Expr := match f with
  | .len => shC1 c "len" e
  | .sorted => shC1 c "sorted" e
  | .tuple => shC1 c "tuple" e
  | .list => shC1 c "list" e
  | .max => shC1 c "max" e
  | .min => shC1 c "min" e
  | .sum => shC1 c "sum" e
  | .abs => shC1 c "abs" e
  | .int => shC1 c "int" e
  | .str => shC1 c "str" e
  | .sortedSet => (shC1 c "sorted" e).bind (shC1 c "set")
  | .lenSet => (shC1 c "len" e).bind (shC1 c "set")
  | .keys => (shC1 c "sorted" e).bind fun e2 => (shM "keys" e2).bind fun q => match q.2 with | [] => some q.1 | _ => none
  | .listRange => (shC1 c "list" e).bind (shC1 c "range")
  | .isInt => shIsi c "int" e
  | .isBool => shIsi c "bool" e
  | .isTuple => shIsi c "tuple" e
  | .isStr => shIsi c "str" e
  | .isList => shIsi c "list" e
  | .isTupleList => (shC2 c "isinstance" e).bind fun q => if isTL c q.2 then some q.1 else none
section
variable {X : Cx} {W : WX} {c : Ck} {C : Calls} {n : Nat} {e a : Expr} {x : Ex}
theorem shIsi_ok' {f : B1} {T : String} (hf : ∀ d, b1D f d = (isTy T d).map fun b => (.bool b, .c)) (hT : T = "int" ∨ T = "bool" ∨ T = "tuple" ∨ T = "str" ∨ T = "list") (k : Cok X c C n W) (h : shIsi c (Str.ofString T) e = some a) (ha : VE X W a (ev C x)) : VE X W e (ev C (.b1 f x)) ∧ noIf e = true := by
  unfold shIsi at h
  obtain ⟨q, e1, e2⟩ := Option.bind_eq_some_iff.mp h
  obtain ⟨p, p2, rfl, g, h1, h2⟩ := shC2_ok e1
  split at e2
  · rename_i h3
    cases e2
    simp only [Bool.and_eq_true] at h3
    obtain ⟨p3, e4⟩ := nmIs_ok h3.1
    rw [e4]
    exact ⟨ve_isi hf hT k g h3.2 h1 ha, rfl⟩
  · cases e2
theorem shB1_ok {f : B1} (k : Cok X c C n W) (h : shB1 c f e = some a) (ha : VE X W a (ev C x)) : VE X W e (ev C (.b1 f x)) ∧ noIf e = true := by
  cases f <;> simp only [shB1] at h
  · obtain ⟨p, p2, rfl, g, h1⟩ := shC1_ok h; exact ⟨ve_len k g h1 ha, rfl⟩
  · obtain ⟨p, p2, rfl, g, h1⟩ := shC1_ok h; exact ⟨ve_sorted k g h1 ha, rfl⟩
  · obtain ⟨p, p2, rfl, g, h1⟩ := shC1_ok h; exact ⟨ve_tuple k g h1 ha, rfl⟩
  · obtain ⟨p, p2, rfl, g, h1⟩ := shC1_ok h; exact ⟨ve_list k g h1 ha, rfl⟩
  · obtain ⟨p, p2, rfl, g, h1⟩ := shC1_ok h; exact ⟨ve_max k g h1 ha, rfl⟩
  · obtain ⟨p, p2, rfl, g, h1⟩ := shC1_ok h; exact ⟨ve_min k g h1 ha, rfl⟩
  · obtain ⟨p, p2, rfl, g, h1⟩ := shC1_ok h; exact ⟨ve_sum k g h1 ha, rfl⟩
  · obtain ⟨p, p2, rfl, g, h1⟩ := shC1_ok h; exact ⟨ve_abs k g h1 ha, rfl⟩
  · obtain ⟨p, p2, rfl, g, h1⟩ := shC1_ok h; exact ⟨ve_int1 k g h1 ha, rfl⟩
  · obtain ⟨p, p2, rfl, g, h1⟩ := shC1_ok h; exact ⟨ve_str1 k g h1 ha, rfl⟩
  · obtain ⟨e2, h1, h2⟩ := Option.bind_eq_some_iff.mp h
    obtain ⟨p, p2, rfl, g, _⟩ := shC1_ok h1
    obtain ⟨p3, p4, rfl, g2, h3⟩ := shC1_ok h2
    exact ⟨ve_sortedSet k g g2 h3 ha, rfl⟩
  · obtain ⟨e2, h1, h2⟩ := Option.bind_eq_some_iff.mp h
    obtain ⟨p, p2, rfl, g, _⟩ := shC1_ok h1
    obtain ⟨p3, p4, rfl, g2, h3⟩ := shC1_ok h2
    exact ⟨ve_lenSet k g g2 h3 ha, rfl⟩
  · obtain ⟨e2, h1, h2⟩ := Option.bind_eq_some_iff.mp h
    obtain ⟨q, h3, h4⟩ := Option.bind_eq_some_iff.mp h2
    obtain ⟨p, p2, rfl, g, _⟩ := shC1_ok h1
    obtain ⟨ap, p3, rfl, hb, hl, _⟩ := shM_ok h3
    split at h4
    · rename_i e5
      cases h4
      rw [e5]
      exact ⟨ve_keysSorted k g (nbase_ok hb _ _ _) hl ha, rfl⟩
    · cases h4
  · obtain ⟨e2, h1, h2⟩ := Option.bind_eq_some_iff.mp h
    obtain ⟨p, p2, rfl, g, _⟩ := shC1_ok h1
    obtain ⟨p3, p4, rfl, g2, h3⟩ := shC1_ok h2
    exact ⟨ve_listRange k g g2 h3 ha, rfl⟩
  · exact shIsi_ok' (T := "int") hf_int (by simp) k h ha
  · exact shIsi_ok' (T := "bool") hf_bool (by simp) k h ha
  · exact shIsi_ok' (T := "tuple") hf_tuple (by simp) k h ha
  · exact shIsi_ok' (T := "str") hf_str (by simp) k h ha
  · exact shIsi_ok' (T := "list") hf_list (by simp) k h ha
  · obtain ⟨q, e1, e2⟩ := Option.bind_eq_some_iff.mp h
    obtain ⟨p, p2, rfl, g, h1, h2⟩ := shC2_ok e1
    split at e2
    · rename_i h3
      cases e2
      obtain ⟨p3, p4, kk, p5, e6, g2, g3⟩ := isTL_ok h3
      rw [e6]
      exact ⟨ve_isiTL k g g2 g3 h1 ha, rfl⟩
    · cases e2
end
end Tw
set_option Elab.async false
set_option linter.all false
set_option maxRecDepth 100000
set_option maxHeartbeats 4000000
/-! The checker of expressions. -/
namespace Tw
open PySem PySem.Spec PyProof.Rows L2
/-- as a test too -/
def tOk : Expr → Bool
  | .IfExp .. => false
  | .UnaryOp .USub .. => false
  | .UnaryOp .UAdd .. => false
  | .UnaryOp .Invert .. => false
  | _ => true
def shVar : Expr → Option Str
  | .Name x _ => some x
  | _ => none
theorem shVar_ok {e : Expr} {x : Str} (h : shVar e = some x) : ∃ p, e = .Name x p := asName_ok (by cases e <;> simpa [shVar, asName] using h)
def shConst : Expr → Option Const
  | .Constant k _ _ => some k
  | _ => none
theorem shConst_ok {e : Expr} {k : Const} (h : shConst e = some k) : ∃ j p, e = .Constant k j p := by
  cases e <;> simp [shConst] at h
  subst h; exact ⟨_, _, rfl⟩
def shLst : Expr → Option (List Expr)
  | .List es _ => some es
  | _ => none
theorem shLst_ok {e : Expr} {es : List Expr} (h : shLst e = some es) : ∃ p, e = .List es p := by
  cases e <;> simp [shLst] at h
  subst h; exact ⟨_, rfl⟩
def isED : Expr → Bool
  | .Dict [] [] _ => true
  | _ => false
theorem isED_ok {e : Expr} (h : isED e = true) : ∃ p, e = .Dict [] [] p := by
  unfold isED at h
  split at h
  · exact ⟨_, rfl⟩
  · cases h
def shCell (c : Ck) (i n : Nat) : Expr → Bool
  | .Subscript (.Name x _) k _ => visB c i x && isC0 k n
  | _ => false
theorem shCell_ok {c : Ck} {i n : Nat} {e : Expr} (h : shCell c i n e = true) : ∃ x p1 j p2 p3, e = .Subscript (.Name x p1) (.Constant (.int (n : Nat)) j p2) p3 ∧ visB c i x = true := by
  unfold shCell at h
  split at h
  · simp only [Bool.and_eq_true] at h
    obtain ⟨j, p2, rfl⟩ := isC0_ok h.2
    exact ⟨_, _, _, _, _, rfl, h.1⟩
  · cases h
/-- f(a, ..), f a def -/
def shFn (c : Ck) (f k : Nat) : Expr → Option (List Expr)
  | .Call (.Name x _) (a :: es) [] _ => if glB c x && (decide ((x, f, k) ∈ c.G.fns) && (noStar a && noStars es)) then some (a :: es) else none
  | _ => none
theorem shFn_ok {c : Ck} {f k : Nat} {e : Expr} {as : List Expr} (h : shFn c f k e = some as) : ∃ x p a es p2, e = .Call (.Name x p) (a :: es) [] p2 ∧ as = a :: es ∧ glB c x = true ∧ (x, f, k) ∈ c.G.fns ∧ noStar a = true ∧ noStars es = true := by
  unfold shFn at h
  split at h
  · split at h
    · rename_i h2
      cases h
      simp only [Bool.and_eq_true, decide_eq_true_eq] at h2
      exact ⟨_, _, _, _, _, rfl, rfl, h2.1, h2.2.1, h2.2.2.1, h2.2.2.2⟩
    · cases h
  · cases h
/-- f() -/
def shFn0 (c : Ck) (f : Nat) : Expr → Bool
  | .Call (.Name x _) [] [] _ => glB c x && decide ((x, f, 0) ∈ c.G.fns)
  | _ => false
theorem shFn0_ok {c : Ck} {f : Nat} {e : Expr} (h : shFn0 c f e = true) : ∃ x p p2, e = .Call (.Name x p) [] [] p2 ∧ glB c x = true ∧ (x, f, 0) ∈ c.G.fns := by
  unfold shFn0 at h
  split at h
  · simp only [Bool.and_eq_true, decide_eq_true_eq] at h
    exact ⟨_, _, _, rfl, h.1, h.2⟩
  · cases h
def nilX : Exs → Bool
  | .nil => true
  | _ => false
structure CompS where
  elt : Expr
  tg : Expr
  it : Expr
  ifs : List Expr
  sc : Scope
def shComp : Expr → Option CompS
  | .ListComp elt [⟨tg, it, ifs, 0⟩] sc _ => some ⟨elt, tg, it, ifs, sc⟩
  | _ => none
theorem shComp_ok {e : Expr} {q : CompS} (h : shComp e = some q) : ∃ p, e = .ListComp q.elt [⟨q.tg, q.it, q.ifs, 0⟩] q.sc p := by
  unfold shComp at h
  split at h
  · cases h; exact ⟨_, rfl⟩
  · cases h
def ownP (c : Ck) (own : List Nat) : List (Str × Nat) := own.map fun i => (c.N.getD i ⟨#[]⟩, i)
theorem ownP_snd (c : Ck) (own : List Nat) : (ownP c own).map (·.2) = own := by
  unfold ownP
  rw [List.map_map]
  exact List.map_id' own
def isTup : Expr → Bool
  | .Tuple .. => true
  | _ => false
/-- the parts of a comprehension that the checker looks at alone -/
def compB (c : Ck) (tg : Tg) (own : List Nat) (q : CompS) : Bool := blkC c.N c.sc q.sc (ownP c own) && (noSet q.it && (mG (blkK c q.sc) tg q.tg && (ixG tg).all fun i => own.contains i))
/-- the keys of a named dict -/
def shKeys (c : Ck) (i : Nat) : Expr → Bool
  | .Call (.Attribute (.Name x p) "keys" ap) [] [] p2 => visB c i x && (nbase (.Name x p) && (ap.endLine == p2.line))
  | _ => false
theorem shKeys_ok {c : Ck} {i : Nat} {e : Expr} (h : shKeys c i e = true) : ∃ x p ap p2, e = .Call (.Attribute (.Name x p) "keys" ap) [] [] p2 ∧ visB c i x = true ∧ nbase (.Name x p) = true ∧ (ap.endLine == p2.line) = true := by
  unfold shKeys at h
  split at h
  · simp only [Bool.and_eq_true] at h
    exact ⟨_, _, _, _, rfl, h.1, h.2.1, h.2.2⟩
  · cases h
def mK (c : Ck) : It → Expr → Bool
  | .keys (.var i), e => shKeys c i e
  | _, _ => false
theorem mK_ok {c : Ck} {it : It} {e : Expr} (h : mK c it e = true) : ∃ i, it = .keys (.var i) ∧ shKeys c i e = true := by
  unfold mK at h
  split at h
  · exact ⟨_, rfl, h⟩
  · cases h
mutual
def mE (c : Ck) : Ex → Expr → Bool
  | .var i, e => (shVar e).elim false fun x => visB c i x
  | .lit d, e => (shConst e).elim false fun k => litB d k
  | .glob x d, e => (shVar e).elim false fun y => decide (y = x) && (glB c x && decide ((x, d) ∈ c.G.consts))
  | .cellIx i n, e => shCell c i n e
  | .scrLen i, e => (shC1 c "len" e).elim false fun a => scrB c i a
  | .scrIx i y, e => (shIx e).elim false fun q => scrB c i q.1 && mE c y q.2
  | .tup es, e => (asTup e).elim false fun as => decide (lenX es ≤ 1000) && mEs c es as
  | .lst es, e => (shLst e).elim false fun as => decide (lenX es ≤ 1000) && mEs c es as
  | .emptyDict, e => isED e
  | .bin o x y, e => (shBin o e).elim false fun q => mE c x q.1 && mE c y q.2
  | .neg x, e => (shUSub e).elim false fun a => mE c x a
  | .cmp o x y, e => (shCmp o e).elim false fun q => mE c x q.1 && mE c y q.2
  | .chain o p x y z, e => (shChain o p e).elim false fun q => mE c x q.1 && (mE c y q.2.1 && mE c z q.2.2)
  | .isNone x, e => (shIsN e).elim false fun a => mE c x a
  | .notNone x, e => (shNotN e).elim false fun a => mE c x a
  | .and x y, e => (shAnd e).elim false fun q => (tOk q.1 && tOk q.2) && (mE c x q.1 && mE c y q.2)
  | .or x y, e => (shOr e).elim false fun q => (tOk q.1 && tOk q.2) && (mE c x q.1 && mE c y q.2)
  | .not x, e => (shNot e).elim false fun a => tOk a && mE c x a
  | .ite z x y, e => (shIte e).elim false fun q => tOk q.1 && (mE c z q.1 && (mE c x q.2.1 && mE c y q.2.2))
  | .ix x y, e => (shIx e).elim false fun q => mE c x q.1 && mE c y q.2
  | .sliceTo x y, e => (shSl e).elim false fun q => mE c x q.1 && (q.2.1.isNone && q.2.2.elim false fun b => mE c y b)
  | .sliceFrom x y, e => (shSl e).elim false fun q => mE c x q.1 && (q.2.2.isNone && q.2.1.elim false fun b => mE c y b)
  | .slice x y z, e => (shSl e).elim false fun q => mE c x q.1 && (q.2.1.elim false (fun b => mE c y b) && q.2.2.elim false fun b => mE c z b)
  | .rev _, _ => false
  | .call f es, e => (shFn c f (lenX es) e).elim (nilX es && shFn0 c f e) fun as => mEs c es as
  | .b1 f x, e => (shB1 c f e).elim false fun a => mE c x a
  | .b2 f x y, e => (shM "index" e).elim false fun q => decide (f = .index) && (mE c x q.1 && (q.2.tail.isEmpty && q.2.head?.elim false fun b => mE c y b))
  | .get3 z x y, e => (shM "get" e).elim false fun q => mE c z q.1 && (q.2.tail.tail.isEmpty && (q.2.head?.elim false (fun a => mE c x a) && q.2.tail.head?.elim false fun b => mE c y b))
  | .comp0 elt tg it own, e => (shComp e).elim false fun q => q.ifs.isEmpty && (compB c tg own q && ((mI c it q.tg q.it || mK c it q.it) && mE (blkK c q.sc) elt q.elt))
  | .comp1 elt tg it cond own, e => (shComp e).elim false fun q => q.ifs.tail.isEmpty && (compB c tg own q && ((mI c it q.tg q.it || mK c it q.it) && (mE (blkK c q.sc) elt q.elt && q.ifs.head?.elim false fun a => tOk a && mE (blkK c q.sc) cond a)))
def mEs (c : Ck) : Exs → List Expr → Bool
  | .nil, es => es.isEmpty
  | .cons x r, es => es.head?.elim false fun e => noStar e && (mE c x e && mEs c r es.tail)
def mI (c : Ck) : It → Expr → Expr → Bool
  | .val x, _, e => mE c x e
  | .range1 x, _, e => (shC1 c "range" e).elim false fun a => mE c x a
  | .range2 x y, _, e => (shC2 c "range" e).elim false fun q => mE c x q.1 && mE c y q.2
  | .enum x, t, e => isTup t && (shC1 c "enumerate" e).elim false fun a => mE c x a
  | .zip x y, t, e => isTup t && (shC2 c "zip" e).elim false fun q => mE c x q.1 && mE c y q.2
  | .keys _, _, _ => false
end
end Tw
set_option Elab.async false
set_option linter.all false
set_option maxRecDepth 100000
set_option maxHeartbeats 4000000
/-! What the checker passes is as the evaluator says. -/
namespace Tw
open PySem PySem.Spec PyProof.Rows L2
structure EO (X : Cx) (W : WX) (e : Expr) (f : EvF) : Prop where
  v : VE X W e f
  t : tOk e = true → VT X W e f
  w : ∀ op vs p, e = .BoolOp op vs p → PW X e (tT (bsOf X) X.mg W f)
theorem EO.of {X : Cx} {W : WX} {e : Expr} {f : EvF} (v : VE X W e f) (h : noIf e = true) : EO X W e f :=
  ⟨v, fun _ => vt_plain v (noIf_ok h X.env), fun op vs p z => by subst z; cases h⟩
theorem EO.cmp {X : Cx} {W : WX} {a : Expr} {ops : List CmpOp} {bs : List Expr} {p : Pos} {f : EvF} (v : VE X W (.Compare a ops bs p) f ∧ VT X W (.Compare a ops bs p) f) : EO X W (.Compare a ops bs p) f :=
  ⟨v.1, fun _ => v.2, fun op vs p z => by cases z⟩
section
variable {X : Cx} {W : WX} {c : Ck} {C : Calls} {n : Nat} {e a b d : Expr} {pos p2 : Pos} {x y z : Ex}
theorem ve_opB {o : Bo} {op : Operator} (h : opB o op = true) (k : Cok X c C n W) (ha : VE X W a (ev C x)) (hb : VE X W b (ev C y)) : VE X W (.BinOp a op b pos) (ev C (.bin o x y)) := by
  unfold opB at h
  split at h
  · exact ve_add k ha hb
  · exact ve_sub k ha hb
  · exact ve_mul k ha hb
  · exact ve_fdiv k ha hb
  · exact ve_mod k ha hb
  · exact ve_pow k ha hb
  · exact ve_shl k ha hb
  · cases h
theorem ve_opC {o : Co} {op : CmpOp} (h : opCo o op = true) (hs : noSet b = true) (k : Cok X c C n W) (ha : VE X W a (ev C x)) (hb : VE X W b (ev C y)) : VE X W (.Compare a [op] [b] pos) (ev C (.cmp o x y)) ∧ VT X W (.Compare a [op] [b] pos) (ev C (.cmp o x y)) := by
  unfold opCo at h
  split at h
  · exact ve_eq k ha hb
  · exact ve_ne k ha hb
  · exact ve_lt k ha hb
  · exact ve_le k ha hb
  · exact ve_gt k ha hb
  · exact ve_ge k ha hb
  · exact ve_in k (mark_ok hs) ha hb
  · exact ve_notin k (mark_ok hs) ha hb
  · exact ve_isb k (mark_ok hs) ha hb
  · exact ve_isnb k (mark_ok hs) ha hb
  · cases h
def opc_of {o : Co} {op : CmpOp} (h : ordCo o op = true) (k : Cok X c C n W) : OpC X C o op := by
  cases o <;> cases op <;> first
    | exact absurd h Bool.false_ne_true
    | exact opC_ord (op_lt_ok k) fun _ _ => rfl
    | exact opC_ord (op_le_ok k) fun _ _ => rfl
    | exact opC_ord (op_gt_ok k) fun _ _ => rfl
    | exact opC_ord (op_ge_ok k) fun _ _ => rfl
theorem litB_ok {dd : PyData} {kk : Const} {j : Nat} (h : litB dd kk = true) : VE X W (.Constant kk j pos) (ev C (.lit dd)) := by
  unfold litB at h
  split at h
  · simp at h; subst h; exact ve_int
  · simp at h; subst h; exact ve_bl
  · exact ve_non
  · simp at h; subst h; exact ve_str
  · cases h
theorem ve_scrLen (k : Cok X c C n W) {i : Nat} {j : Nat} {xx : Str} {p1 p3 p4 : Pos} (hg : glB c "len" = true) (h : visB c i xx = true) : VE X W (.Call (.Name "len" p4) [.Subscript (.Name xx p1) (.Constant (.int 0) j p2) p3] [] pos) (ev C (.scrLen i)) := by
  obtain ⟨g1, g2⟩ := glB_ok k hg
  refine PE.imp (pe_callB call_len g1 (k.blt _ (by decide)) boot_len (pa_cons (pe_scr k h) pa_nil (star1 rfl)) (by decide) g2 (star1 rfl)) fun σ H Q q => ?_
  obtain ⟨O, ρ, env, m, S, q⟩ := q
  rw [ev] at q
  cases e : scrGet (getS env i) m with
  | none => rw [e] at q; exact q.elim
  | some ns =>
    rw [e] at q
    obtain ⟨a, qd, ks, e1, e2, sc⟩ := scr_at S e
    exact ⟨a, qd, ks, e1, e2, .ref qd, ns.length, rfl, .inl ⟨_, sc.sq, by simp⟩, q _ _ (.refl _ _) S.cell (Rp.int _)⟩
theorem plainIx_of {b : Expr} (h : noSlice b = true) : PlainIx b := plainIx (by cases b <;> first | rfl | exact h)
theorem ex_not_var {x : Ex} (h : ∀ i, x ≠ .var i) (a : Expr) (ha : VE X W a (ev C x)) : PE X a (tAr (bsOf X) X.mg W x (ev C x)) := ex_arg h ha
end
theorem blk_of {X : Cx} {W : WX} {c : Ck} {C : Calls} {n : Nat} (k : Cok X c C n W) {scope : Scope} {own : List (Str × Nat)} (h : blkC c.N c.sc scope own = true) : BlkOk X.N X.env.scope scope own := by
  rw [k.hN, k.hsc]
  exact blkOk_by h
theorem all_own {is : List Nat} {own : List Nat} (h : (is.all fun i => own.contains i) = true) : ∀ i ∈ is, i ∈ own := fun i hi => by
  rw [List.all_eq_true] at h
  simpa using h i hi
mutual
theorem mE_ok {C : Calls} {n : Nat} : ∀ (x : Ex) {X : Cx} {W : WX} {c : Ck} (k : Cok X c C n W) (e : Expr), mE c x e = true → EO X W e (ev C x)
  | .var i, X, W, c, k, e, h => by
    rw [mE] at h
    cases e1 : shVar e with
    | none => rw [e1] at h; cases h
    | some xx => rw [e1] at h; obtain ⟨p, rfl⟩ := shVar_ok e1; exact .of (ve_var k h) rfl
  | .lit d, X, W, c, k, e, h => by
    rw [mE] at h
    cases e1 : shConst e with
    | none => rw [e1] at h; cases h
    | some kk => rw [e1] at h; obtain ⟨j, p, rfl⟩ := shConst_ok e1; exact .of (litB_ok h) rfl
  | .glob xx d, X, W, c, k, e, h => by
    rw [mE] at h
    cases e1 : shVar e with
    | none => rw [e1] at h; cases h
    | some yy =>
      rw [e1] at h
      obtain ⟨p, rfl⟩ := shVar_ok e1
      simp only [Option.elim, Bool.and_eq_true, decide_eq_true_eq] at h
      obtain ⟨rfl, h1, h2⟩ := h
      exact .of (ve_glob k h1 h2) rfl
  | .cellIx i t, X, W, c, k, e, h => by
    rw [mE] at h
    obtain ⟨xx, p1, j, p2, p3, rfl, hv⟩ := shCell_ok h
    exact .of (ve_cellIx k hv) rfl
  | .scrLen i, X, W, c, k, e, h => by
    rw [mE] at h
    cases e1 : shC1 c "len" e with
    | none => rw [e1] at h; cases h
    | some a =>
      rw [e1] at h
      obtain ⟨p, p2, rfl, g, _⟩ := shC1_ok e1
      obtain ⟨xx, q1, j, q2, q3, rfl, hv⟩ := scrB_ok h
      exact .of (ve_scrLen k g hv) rfl
  | .scrIx i y, X, W, c, k, e, h => by
    rw [mE] at h
    cases e1 : shIx e with
    | none => rw [e1] at h; cases h
    | some q =>
      rw [e1] at h
      simp only [Option.elim, Bool.and_eq_true] at h
      obtain ⟨p, rfl, hs⟩ := shIx_ok e1
      obtain ⟨xx, q1, j, q2, q3, e2, hv⟩ := scrB_ok h.1
      rw [e2]
      exact .of (ve_scrIx k hv (plainIx_of hs) (mE_ok y k _ h.2).v) rfl
  | .tup es, X, W, c, k, e, h => by
    rw [mE] at h
    cases e1 : asTup e with
    | none => rw [e1] at h; cases h
    | some as =>
      rw [e1] at h
      simp only [Option.elim, Bool.and_eq_true, decide_eq_true_eq] at h
      obtain ⟨j, p, rfl⟩ := asTup_ok e1
      exact .of (ve_tup h.1 (mEs_ok es k as h.2).1) rfl
  | .lst es, X, W, c, k, e, h => by
    rw [mE] at h
    cases e1 : shLst e with
    | none => rw [e1] at h; cases h
    | some as =>
      rw [e1] at h
      simp only [Option.elim, Bool.and_eq_true, decide_eq_true_eq] at h
      obtain ⟨p, rfl⟩ := shLst_ok e1
      exact .of (ve_lst h.1 (mEs_ok es k as h.2).1) rfl
  | .emptyDict, X, W, c, k, e, h => by
    rw [mE] at h
    obtain ⟨p, rfl⟩ := isED_ok h
    exact .of ve_emptyDict rfl
  | .bin o x y, X, W, c, k, e, h => by
    rw [mE] at h
    cases e1 : shBin o e with
    | none => rw [e1] at h; cases h
    | some q =>
      rw [e1] at h
      simp only [Option.elim, Bool.and_eq_true] at h
      obtain ⟨op, p, rfl, ho⟩ := shBin_ok e1
      exact .of (ve_opB ho k (mE_ok x k _ h.1).v (mE_ok y k _ h.2).v) rfl
  | .neg x, X, W, c, k, e, h => by
    rw [mE] at h
    cases e1 : shUSub e with
    | none => rw [e1] at h; cases h
    | some a =>
      rw [e1] at h
      obtain ⟨p, rfl⟩ := shUSub_ok e1
      exact ⟨ve_neg (mE_ok x k _ h).v, fun z => (by cases z), fun op vs p z => (by cases z)⟩
  | .cmp o x y, X, W, c, k, e, h => by
    rw [mE] at h
    cases e1 : shCmp o e with
    | none => rw [e1] at h; cases h
    | some q =>
      rw [e1] at h
      simp only [Option.elim, Bool.and_eq_true] at h
      obtain ⟨op, p, rfl, ho, hs⟩ := shCmp_ok e1
      exact .cmp (ve_opC ho hs k (mE_ok x k _ h.1).v (mE_ok y k _ h.2).v)
  | .chain o p x y z, X, W, c, k, e, h => by
    rw [mE] at h
    cases e1 : shChain o p e with
    | none => rw [e1] at h; cases h
    | some q =>
      rw [e1] at h
      simp only [Option.elim, Bool.and_eq_true] at h
      obtain ⟨op, op2, pp, rfl, ho, ho2, hs⟩ := shChain_ok e1
      have hm : lastMarks [op, op2] [q.2.1, q.2.2] = false := by
        show behindInMarks op2 q.2.2 = false
        exact mark_ok hs
      exact .cmp (ve_chain (opc_of ho k) (opc_of ho2 k) (mE_ok x k _ h.1).v (mE_ok y k _ h.2.1).v (mE_ok z k _ h.2.2).v hm)
  | .isNone x, X, W, c, k, e, h => by
    rw [mE] at h
    cases e1 : shIsN e with
    | none => rw [e1] at h; cases h
    | some a => rw [e1] at h; obtain ⟨j, p, pp, rfl⟩ := shIsN_ok e1; exact .cmp (ve_isNone (mE_ok x k _ h).v)
  | .notNone x, X, W, c, k, e, h => by
    rw [mE] at h
    cases e1 : shNotN e with
    | none => rw [e1] at h; cases h
    | some a => rw [e1] at h; obtain ⟨j, p, pp, rfl⟩ := shNotN_ok e1; exact .cmp (ve_notNone (mE_ok x k _ h).v)
  | .and x y, X, W, c, k, e, h => by
    rw [mE] at h
    cases e1 : shAnd e with
    | none => rw [e1] at h; cases h
    | some q =>
      rw [e1] at h
      simp only [Option.elim, Bool.and_eq_true] at h
      obtain ⟨b, rest, p, rfl, hq⟩ := shAnd_ok e1
      have A := mE_ok x k _ h.2.1
      have Bq := mE_ok y k _ h.2.2
      have hw : PW X (.BoolOp .And (b :: rest) p) (tT (bsOf X) X.mg W (ev C y)) := by
        rcases hq with ⟨rfl, e2⟩ | e2
        · exact pw_and1 (by rw [← e2]; exact Bq.t h.1.2)
        · rw [← e2]; exact Bq.w _ _ _ e2
      have hv : PE X (.BoolOp .And (b :: rest) p) (tV (bsOf X) X.mg W (ev C y)) := by
        rcases hq with ⟨rfl, e2⟩ | e2
        · exact pe_one (by rw [← e2]; exact Bq.v)
        · rw [← e2]; exact Bq.v
      have w := vw_and (A.t h.1.1) hw
      exact ⟨ve_and A.v hv, fun _ => w.pt, fun _ _ _ _ => w⟩
  | .or x y, X, W, c, k, e, h => by
    rw [mE] at h
    cases e1 : shOr e with
    | none => rw [e1] at h; cases h
    | some q =>
      rw [e1] at h
      simp only [Option.elim, Bool.and_eq_true] at h
      obtain ⟨b, rest, p, rfl, hq⟩ := shOr_ok e1
      have A := mE_ok x k _ h.2.1
      have Bq := mE_ok y k _ h.2.2
      have hw : PW X (.BoolOp .Or (b :: rest) p) (tT (bsOf X) X.mg W (ev C y)) := by
        rcases hq with ⟨rfl, e2⟩ | e2
        · exact pw_or1 (by rw [← e2]; exact Bq.t h.1.2)
        · rw [← e2]; exact Bq.w _ _ _ e2
      have hv : PE X (.BoolOp .Or (b :: rest) p) (tV (bsOf X) X.mg W (ev C y)) := by
        rcases hq with ⟨rfl, e2⟩ | e2
        · exact pe_one (by rw [← e2]; exact Bq.v)
        · rw [← e2]; exact Bq.v
      have w := vw_or (A.t h.1.1) hw
      exact ⟨ve_or A.v hv, fun _ => w.pt, fun _ _ _ _ => w⟩
  | .not x, X, W, c, k, e, h => by
    rw [mE] at h
    cases e1 : shNot e with
    | none => rw [e1] at h; cases h
    | some a =>
      rw [e1] at h
      simp only [Option.elim, Bool.and_eq_true] at h
      obtain ⟨p, rfl⟩ := shNot_ok e1
      have A := mE_ok x k _ h.2
      exact ⟨ve_not A.v, fun _ => vt_not (A.t h.1), fun op vs p z => by cases z⟩
  | .ite z x y, X, W, c, k, e, h => by
    rw [mE] at h
    cases e1 : shIte e with
    | none => rw [e1] at h; cases h
    | some q =>
      rw [e1] at h
      simp only [Option.elim, Bool.and_eq_true] at h
      obtain ⟨p, rfl⟩ := shIte_ok e1
      exact ⟨ve_ite ((mE_ok z k _ h.2.1).t h.1) (mE_ok x k _ h.2.2.1).v (mE_ok y k _ h.2.2.2).v, fun z => (by cases z), fun op vs p z => (by cases z)⟩
  | .ix x y, X, W, c, k, e, h => by
    rw [mE] at h
    cases e1 : shIx e with
    | none => rw [e1] at h; cases h
    | some q =>
      rw [e1] at h
      simp only [Option.elim, Bool.and_eq_true] at h
      obtain ⟨p, rfl, hs⟩ := shIx_ok e1
      exact .of (ve_ix k (plainIx_of hs) (mE_ok x k _ h.1).v (mE_ok y k _ h.2).v) rfl
  | .sliceTo x y, X, W, c, k, e, h => by
    rw [mE] at h
    cases e1 : shSl e with
    | none => rw [e1] at h; cases h
    | some q =>
      rw [e1] at h
      obtain ⟨a, lo, hi⟩ := q
      obtain ⟨p, p2, rfl⟩ := shSl_ok e1
      cases lo with
      | some lo => simp at h
      | none =>
        cases hi with
        | none => simp at h
        | some hi =>
          simp only [Option.elim, Bool.and_eq_true] at h
          exact .of (ve_sliceTo (mE_ok x k _ h.1).v (mE_ok y k _ h.2.2).v) rfl
  | .sliceFrom x y, X, W, c, k, e, h => by
    rw [mE] at h
    cases e1 : shSl e with
    | none => rw [e1] at h; cases h
    | some q =>
      rw [e1] at h
      obtain ⟨a, lo, hi⟩ := q
      obtain ⟨p, p2, rfl⟩ := shSl_ok e1
      cases hi with
      | some hi => simp at h
      | none =>
        cases lo with
        | none => simp at h
        | some lo =>
          simp only [Option.elim, Bool.and_eq_true] at h
          exact .of (ve_sliceFrom (mE_ok x k _ h.1).v (mE_ok y k _ h.2.2).v) rfl
  | .slice x y z, X, W, c, k, e, h => by
    rw [mE] at h
    cases e1 : shSl e with
    | none => rw [e1] at h; cases h
    | some q =>
      rw [e1] at h
      obtain ⟨a, lo, hi⟩ := q
      obtain ⟨p, p2, rfl⟩ := shSl_ok e1
      cases lo with
      | none => simp at h
      | some lo =>
        cases hi with
        | none => simp at h
        | some hi =>
          simp only [Option.elim, Bool.and_eq_true] at h
          exact .of (ve_slice (mE_ok x k _ h.1).v (mE_ok y k _ h.2.1).v (mE_ok z k _ h.2.2).v) rfl
  | .rev x, X, W, c, k, e, h => by rw [mE] at h; cases h
  | .call f es, X, W, c, k, e, h => by
    rw [mE] at h
    cases e1 : shFn c f (lenX es) e with
    | none =>
      rw [e1] at h
      simp only [Option.elim, Bool.and_eq_true] at h
      obtain ⟨h1, h2⟩ := h
      obtain ⟨xx, p, p2, rfl, g, hm⟩ := shFn0_ok h2
      cases es with
      | nil => exact .of (ve_call0 k g hm) rfl
      | cons _ _ => cases h1
    | some as =>
      rw [e1] at h
      obtain ⟨xx, p, a, rs, p2, rfl, rfl, g, hm, hst, hss⟩ := shFn_ok e1
      exact .of (ve_call k g hm hst (fun pos => noStars_any _ _ hss) (mEs_ok es k _ h).2) rfl
  | .b1 f x, X, W, c, k, e, h => by
    rw [mE] at h
    cases e1 : shB1 c f e with
    | none => rw [e1] at h; cases h
    | some a =>
      rw [e1] at h
      obtain ⟨h1, h2⟩ := shB1_ok k e1 (mE_ok x k _ h).v
      exact .of h1 h2
  | .b2 f x y, X, W, c, k, e, h => by
    rw [mE] at h
    cases e1 : shM "index" e with
    | none => rw [e1] at h; cases h
    | some q =>
      rw [e1] at h
      obtain ⟨o, as⟩ := q
      obtain ⟨ap, p, rfl, hb, hl, hs⟩ := shM_ok e1
      cases as with
      | nil => simp at h
      | cons a as =>
        cases as with
        | cons _ _ => simp at h
        | nil =>
          simp only [Option.elim, List.tail_cons, List.head?_cons, Bool.and_eq_true, decide_eq_true_eq] at h
          obtain ⟨rfl, h1, _, h2⟩ := h
          simp only [noStars, Bool.and_eq_true] at hs
          exact .of (ve_index k (nbase_ok hb _ _ _) hl hs.1 (few1 hs.1) (mE_ok x k _ h1).v (mE_ok y k _ h2).v) rfl
  | .get3 z x y, X, W, c, k, e, h => by
    rw [mE] at h
    cases e1 : shM "get" e with
    | none => rw [e1] at h; cases h
    | some q =>
      rw [e1] at h
      obtain ⟨o, as⟩ := q
      obtain ⟨ap, p, rfl, hb, hl, hs⟩ := shM_ok e1
      cases as with
      | nil => simp at h
      | cons a as =>
        cases as with
        | nil => simp at h
        | cons b as =>
          cases as with
          | cons _ _ => simp at h
          | nil =>
            simp only [Option.elim, List.tail_cons, List.head?_cons, Bool.and_eq_true] at h
            obtain ⟨h1, _, h2, h3⟩ := h
            simp only [noStars, Bool.and_eq_true] at hs
            exact .of (ve_get3 k (nbase_ok hb _ _ _) hl (few2 hs.1 hs.2.1) (tr2 hs.1 hs.2.1) (mE_ok z k _ h1).v (mE_ok x k _ h2).v (mE_ok y k _ h3).v) rfl
  | .comp0 elt tg it own, X, W, c, k, e, h => by
    rw [mE] at h
    cases e1 : shComp e with
    | none => rw [e1] at h; cases h
    | some q =>
      rw [e1] at h
      obtain ⟨p, rfl⟩ := shComp_ok e1
      obtain ⟨eltE, tgE, itE, ifs, sc⟩ := q
      simp only [Option.elim, Bool.and_eq_true, compB] at h
      obtain ⟨hi, ⟨hb, hn, hg, ho⟩, hit, he⟩ := h
      cases ifs with
      | cons _ _ => cases hi
      | nil =>
        rcases Bool.or_eq_true_iff.mp hit with hit | hit
        case inr =>
          obtain ⟨i, rfl, ht⟩ := mK_ok hit
          obtain ⟨xx, px, ap, pk, rfl, h1, h2, h3⟩ := shKeys_ok ht
          have := ve_comp0K (pos := p) k (pi_keysL (tg := tgE) k h1 (nbase_ok h2 _ _ _) h3) (blk_of k hb) (fun s H Ca cl fp => mG_ok (cok_blk k s H sc Ca cl fp) tg tgE hg) (fun s H Ca cl fp => (mE_ok elt (cok_blk k s H sc Ca cl fp) eltE he).v) (fold_ok hn X.env) (by rw [ownP_snd]; exact all_own ho)
          rw [ownP_snd] at this
          exact .of this rfl
        have K : CompOk X c C n W sc (ownP c own) tgE itE eltE tg it elt := ⟨mI_ok it k tgE itE hit, blk_of k hb, fun s H Ca cl fp => mG_ok (cok_blk k s H sc Ca cl fp) tg tgE hg, fun s H Ca cl fp => (mE_ok elt (cok_blk k s H sc Ca cl fp) eltE he).v, fold_ok hn X.env, by rw [ownP_snd]; exact all_own ho⟩
        have := ve_comp0 (pos := p) k K
        rw [ownP_snd] at this
        exact .of this rfl
  | .comp1 elt tg it cond own, X, W, c, k, e, h => by
    rw [mE] at h
    cases e1 : shComp e with
    | none => rw [e1] at h; cases h
    | some q =>
      rw [e1] at h
      obtain ⟨p, rfl⟩ := shComp_ok e1
      obtain ⟨eltE, tgE, itE, ifs, sc⟩ := q
      simp only [Option.elim, Bool.and_eq_true, compB] at h
      obtain ⟨hi, ⟨hb, hn, hg, ho⟩, hit, he, hc⟩ := h
      cases ifs with
      | nil => cases hc
      | cons ce cs =>
        cases cs with
        | cons _ _ => cases hi
        | nil =>
          simp only [List.head?_cons, Option.elim, Bool.and_eq_true] at hc
          rcases Bool.or_eq_true_iff.mp hit with hit | hit
          case inr =>
            obtain ⟨i, rfl, ht⟩ := mK_ok hit
            obtain ⟨xx, px, ap, pk, rfl, h1, h2, h3⟩ := shKeys_ok ht
            have := ve_comp1K (pos := p) (condE := ce) (cond := cond) k (pi_keysL (tg := tgE) k h1 (nbase_ok h2 _ _ _) h3) (blk_of k hb) (fun s H Ca cl fp => mG_ok (cok_blk k s H sc Ca cl fp) tg tgE hg) (fun s H Ca cl fp => (mE_ok elt (cok_blk k s H sc Ca cl fp) eltE he).v) (fold_ok hn X.env) (by rw [ownP_snd]; exact all_own ho) (fun s H Ca cl fp => (mE_ok cond (cok_blk k s H sc Ca cl fp) ce hc.2).t hc.1)
            rw [ownP_snd] at this
            exact .of this rfl
          have K : CompOk X c C n W sc (ownP c own) tgE itE eltE tg it elt := ⟨mI_ok it k tgE itE hit, blk_of k hb, fun s H Ca cl fp => mG_ok (cok_blk k s H sc Ca cl fp) tg tgE hg, fun s H Ca cl fp => (mE_ok elt (cok_blk k s H sc Ca cl fp) eltE he).v, fold_ok hn X.env, by rw [ownP_snd]; exact all_own ho⟩
          have := ve_comp1 (pos := p) (condE := ce) (cond := cond) k K fun s H Ca cl fp => (mE_ok cond (cok_blk k s H sc Ca cl fp) ce hc.2).t hc.1
          rw [ownP_snd] at this
          exact .of this rfl
theorem mEs_ok {C : Calls} {n : Nat} : ∀ (xs : Exs) {X : Cx} {W : WX} {c : Ck} (k : Cok X c C n W) (es : List Expr), mEs c xs es = true → VEs X W es (evs C xs) ∧ VAs X W es (evA C xs)
  | .nil, X, W, c, k, es, h => by
    cases es with
    | nil => exact ⟨ves_nil, vas_nil⟩
    | cons e es => rw [mEs] at h; cases h
  | .cons x r, X, W, c, k, es, h => by
    cases es with
    | nil => rw [mEs] at h; cases h
    | cons e es =>
      rw [mEs] at h
      simp only [List.head?_cons, Option.elim, List.tail_cons, Bool.and_eq_true] at h
      obtain ⟨h1, h2, h3⟩ := h
      have A := mE_ok x k e h2
      obtain ⟨r1, r2⟩ := mEs_ok r k es h3
      refine ⟨ves_cons h1 A.v r1, vas_cons h1 ?_ r2⟩
      cases x with
      | var i =>
        rw [mE] at h2
        cases e1 : shVar e with
        | none => rw [e1] at h2; cases h2
        | some xx => rw [e1] at h2; obtain ⟨p, rfl⟩ := shVar_ok e1; exact var_arg k h2
      | _ => exact ex_arg (fun i z => by cases z) A.v
theorem mI_ok {C : Calls} {n : Nat} : ∀ (it : It) {X : Cx} {W : WX} {c : Ck} (k : Cok X c C n W) (t e : Expr), mI c it t e = true → VI X W t e (evI C it)
  | .val x, X, W, c, k, t, e, h => by rw [mI] at h; exact vi_val (mE_ok x k e h).v
  | .range1 x, X, W, c, k, t, e, h => by
    rw [mI] at h
    cases e1 : shC1 c "range" e with
    | none => rw [e1] at h; cases h
    | some a => rw [e1] at h; obtain ⟨p, p2, rfl, g, hs⟩ := shC1_ok e1; exact vi_range1 k g hs (mE_ok x k _ h).v
  | .range2 x y, X, W, c, k, t, e, h => by
    rw [mI] at h
    cases e1 : shC2 c "range" e with
    | none => rw [e1] at h; cases h
    | some q =>
      rw [e1] at h
      simp only [Option.elim, Bool.and_eq_true] at h
      obtain ⟨p, p2, rfl, g, hs, hs2⟩ := shC2_ok e1
      exact vi_range2 k g hs hs2 (mE_ok x k _ h.1).v (mE_ok y k _ h.2).v
  | .enum x, X, W, c, k, t, e, h => by
    rw [mI] at h
    simp only [Bool.and_eq_true] at h
    cases t with
    | Tuple es kk tp =>
      cases e1 : shC1 c "enumerate" e with
      | none => rw [e1] at h; cases h.2
      | some a => rw [e1] at h; obtain ⟨p, p2, rfl, g, hs⟩ := shC1_ok e1; exact vi_enum k g hs (mE_ok x k _ h.2).v
    | _ => cases h.1
  | .zip x y, X, W, c, k, t, e, h => by
    rw [mI] at h
    simp only [Bool.and_eq_true] at h
    cases t with
    | Tuple es kk tp =>
      cases e1 : shC2 c "zip" e with
      | none => rw [e1] at h; cases h.2
      | some q =>
        rw [e1] at h
        simp only [Option.elim, Bool.and_eq_true] at h
        obtain ⟨p, p2, rfl, g, hs, hs2⟩ := shC2_ok e1
        exact vi_zip k g hs hs2 (mE_ok x k _ h.2.1).v (mE_ok y k _ h.2.2).v
    | _ => cases h.1
  | .keys _, X, W, c, k, t, e, h => by rw [mI] at h; cases h
end
end Tw
set_option Elab.async false
set_option linter.all false
set_option maxRecDepth 100000
set_option maxHeartbeats 4000000
/-! The checker of statements. -/
namespace Tw
open PySem PySem.Spec PyProof.Rows L2
def blkKind (sc : Scope) : ScopeKind := if sc.kind.isAnnotationScope then .function else sc.kind
/-- does name = value exchange its stores (a comprehension whose target is a plain local of the same line) -/
def swV (sc : Scope) (v : Expr) (t : Str) (p : Pos) : Bool := match v with
  | .ListComp _ _ s q => blkKind sc == .function && sc.names.lookup t == some .local && p.line == q.line && !(s.names.any fun (n, k) => n == t && (k == .local || k == .cell))
  | .SetComp .. => true
  | .DictComp .. => true
  | _ => false
theorem swV_false {v : Expr} {t : Str} {p : Pos} {line : Nat} {env : Env} (h : swV env.scope v t p = false) : swapsWith v (some (.Name t p)) line env = pure false := by
  cases v <;> first
    | rfl
    | (cases h; done)
    | (rename_i a b s q
       show (pure _ : Sem Bool) = pure false
       exact congrArg pure h)
theorem swV_true {el : Expr} {gs : List Comprehension} {s : Scope} {q : Pos} {t : Str} {p : Pos} {line : Nat} {env : Env} (h : swV env.scope (.ListComp el gs s q) t p = true) : swapsWith (.ListComp el gs s q) (some (.Name t p)) line env = pure true ∧ env.scope.names.lookup t = some .local := by
  refine ⟨congrArg pure h, ?_⟩
  unfold swV at h
  simp only [Bool.and_eq_true, beq_iff_eq] at h
  exact h.1.1.2
def noComp : Expr → Bool
  | .ListComp .. => false
  | .SetComp .. => false
  | .DictComp .. => false
  | _ => true
theorem swN_ok {e : Expr} {line : Nat} {env : Env} (h : noComp e = true) : swapsWith e none line env = pure false := by
  cases e <;> first | rfl | cases h
def notName : Expr → Bool
  | .Name .. => false
  | _ => true
theorem sole_ok {t e : Expr} {line : Nat} {env : Env} (h : notName t = true) : swapsWithSole [t] e line env = pure false := by
  show swapsWith e (some t) line env = pure false
  cases t <;> first | (cases h; done) | (cases e <;> rfl)
def noTup : Expr → Bool
  | .Tuple .. => false
  | _ => true
theorem stores_ok {t e : Expr} {env : Env} (h : noTup e = true) : swappedStores [t] e env = pure none := by
  cases e <;> first | (cases h; done) | (cases t <;> rfl)
theorem stores_ok2 {t e : Expr} {env : Env} (h : noTup t = true) (h2 : shLst t = none) : swappedStores [t] e env = pure none := by
  cases t <;> first | (cases h; done) | (simp [shLst] at h2; done) | (cases e <;> rfl)
def noStarB (e : Expr) : Bool := match e with
  | .Starred .. => true
  | _ => false
/-- a, b = x, y: the stores are exchanged -/
def swapB (sc : Scope) (x y : Str) (px py : Pos) (a b : Expr) : Bool :=
  (blkKind sc == .function && (noStar a && noStar b)) && ((sc.names.lookup x == some .local && (sc.names.lookup y == some .local && py.line == px.line)) && (decide (x ≠ y) && (!(foldedForSure 8 a && foldedForSure 8 b) && !(constantsAlone 8 a && constantsAlone 8 b))))
theorem starM : ∀ e : Expr, noStar e = true → (match e with | .Starred .. => true | _ => false) = false := fun e h => by
  cases e <;> first | rfl | cases h
theorem swapB_ok {x y : Str} {px py tp p4 : Pos} {kt k2 : Nat} {a b : Expr} {env : Env} (h : swapB env.scope x y px py a b = true) : swappedStores [.Tuple [.Name x px, .Name y py] kt tp] (.Tuple [a, b] k2 p4) env = pure (some [x, y]) := by
  unfold swapB at h
  simp only [Bool.and_eq_true, beq_iff_eq, decide_eq_true_eq, Bool.not_eq_true'] at h
  obtain ⟨⟨h1, h2, h3⟩, ⟨h4, h5, h6⟩, h7, h8, h9⟩ := h
  have hb : env.blockKind = .function := h1
  have k1 : env.kindOf x = some .local := h4
  have k2' : env.kindOf y = some .local := h5
  have sa := starM a h2
  have sb := starM b h3
  have e2 : ([a, b].all (foldedForSure 8)) = false := by simpa using h8
  have e3 : ([a, b].all (constantsAlone 8)) = false := by simpa using h9
  have e4 : ([x, y] : List Str).eraseDups = [x, y] := by
    have : (y == x) = false := by simpa using Ne.symm h7
    simp [List.eraseDups_cons, this]
  have ef : ([Expr.Name x px, Expr.Name y py].filterMap fun
    | .Name id pos => if env.kindOf id == some .local && pos.line == px.line then some id else none
    | _ => none) = [x, y] := by
    simp [k1, k2', h6]
  have ea : ([a, b].any fun | .Starred .. => true | _ => false) = false := by
    rw [List.any_cons, List.any_cons, List.any_nil, Bool.or_false, Bool.or_eq_false_iff]
    exact ⟨sa, sb⟩
  show (do
    if !(([Expr.Name x px, Expr.Name y py].length == 2 || [Expr.Name x px, Expr.Name y py].length == 3)) || [a, b].length != [Expr.Name x px, Expr.Name y py].length || env.blockKind != .function then return none
    if [a, b].any fun | .Starred .. => true | _ => false then return none
    let names := [Expr.Name x px, Expr.Name y py].filterMap fun
      | .Name id pos => if env.kindOf id == some .local && pos.line == px.line then some id else none
      | _ => none
    if names.length != [Expr.Name x px, Expr.Name y py].length || names.eraseDups.length != names.length then return none
    if [a, b].all (foldedForSure 8) then return none
    if [a, b].all (constantsAlone 8) then unsupported "assign.tuple-of-constant-expressions:order-of-the-stores"
    return some names : Sem (Option (List Str))) = _
  rw [ef, ea, e2, e3]
  simp [hb, e4]
end Tw
set_option Elab.async false
set_option linter.all false
set_option maxRecDepth 100000
set_option maxHeartbeats 4000000
/-! The checker of statements. -/
namespace Tw
open PySem PySem.Spec PyProof.Rows L2
section
variable {X : Cx} {W : WX} {Old : Addr → Prop} {c : Ck} {C : Calls} {F : Nat} {n : Nat} {e a b d : Expr} {pos p2 p3 : Pos} {x y z : Ex} {st : Stmt} {rest : List Stmt}
theorem vs_setLc0 {i : Nat} {yy : Str} {scope : Scope} {own : List (Str × Nat)} {tgE iterE eltE : Expr} {tg : Tg} {it : It} {elt : Ex} (k : Cok X c C n W) (K : CompOk X c C n W scope own tgE iterE eltE tg it elt) (hi : X.N[i]? = some yy) (hl : X.env.scope.names.lookup yy = some .local)
    (hsw : swapsWith (.ListComp eltE [⟨tgE, iterE, [], 0⟩] scope p3) (some (.Name yy p2)) pos.line X.env = pure true) : VS X W Old (.Assign [.Name yy p2] (.ListComp eltE [⟨tgE, iterE, [], 0⟩] scope p3) pos) (ex C F (.set i (.comp0 elt tg it (own.map (·.2))))) :=
  PS.imp (ps_setLc k.calm (nd_of k) hi hl hsw K.hit K.blk K.htg (fun s H Ca cl fp => pts_nil) K.helt K.fold) fun D σ H q => tLc_comp0 K.ixs (tAsg_set q)
theorem vs_setLc1 {i : Nat} {yy : Str} {scope : Scope} {own : List (Str × Nat)} {tgE iterE eltE condE : Expr} {tg : Tg} {it : It} {elt cond : Ex} (k : Cok X c C n W) (K : CompOk X c C n W scope own tgE iterE eltE tg it elt)
    (hc : ∀ (s : Shared) (H : Hp) (Ca : Addr) (cl : List (Str × Addr)) (fp : List Addr), PT (X.blk s H scope (compEnvC scope cl Ca X.env) fp) condE (tT (bsOf X) X.mg W0 (ev C cond))) (hi : X.N[i]? = some yy) (hl : X.env.scope.names.lookup yy = some .local)
    (hsw : swapsWith (.ListComp eltE [⟨tgE, iterE, [condE], 0⟩] scope p3) (some (.Name yy p2)) pos.line X.env = pure true) : VS X W Old (.Assign [.Name yy p2] (.ListComp eltE [⟨tgE, iterE, [condE], 0⟩] scope p3) pos) (ex C F (.set i (.comp1 elt tg it cond (own.map (·.2))))) :=
  PS.imp (ps_setLc k.calm (nd_of k) hi hl hsw K.hit K.blk K.htg (fun s H Ca cl fp => pts_one (hc s H Ca cl fp)) K.helt K.fold) fun D σ H q => tLc_comp1 K.ixs (tAsg_set q)
end
/-! ### shapes -/
structure Asg where
  t : Expr
  v : Expr
def shAsg : Stmt → Option Asg
  | .Assign [t] v _ => some ⟨t, v⟩
  | _ => none
theorem shAsg_ok {s : Stmt} {q : Asg} (h : shAsg s = some q) : ∃ p, s = .Assign [q.t] q.v p := by
  unfold shAsg at h
  split at h
  · cases h; exact ⟨_, rfl⟩
  · cases h
def namePos : Expr → Option (Str × Pos)
  | .Name x p => some (x, p)
  | _ => none
theorem namePos_ok {e : Expr} {q : Str × Pos} (h : namePos e = some q) : e = .Name q.1 q.2 := by
  cases e <;> simp [namePos] at h
  subst h; rfl
structure Par where
  x : Str
  px : Pos
  y : Str
  py : Pos
  a : Expr
  b : Expr
def shPar : Stmt → Option Par
  | .Assign [.Tuple [.Name x px, .Name y py] _ _] (.Tuple [a, b] _ _) _ => some ⟨x, px, y, py, a, b⟩
  | _ => none
theorem shPar_ok {s : Stmt} {q : Par} (h : shPar s = some q) : ∃ kt tp k2 p4 p, s = .Assign [.Tuple [.Name q.x q.px, .Name q.y q.py] kt tp] (.Tuple [q.a, q.b] k2 p4) p := by
  unfold shPar at h
  split at h
  · cases h; exact ⟨_, _, _, _, _, rfl⟩
  · cases h
/-- the pair is laid and taken apart -/
def parNone (sc : Scope) (q : Par) : Bool := !(sc.names.lookup q.x == some .local && (sc.names.lookup q.y == some .local && q.py.line == q.px.line)) && (blkKind sc == .function && (noStar q.a && noStar q.b))
theorem parNone_ok {q : Par} {tp p4 : Pos} {kt k2 : Nat} {env : Env} (h : parNone env.scope q = true) : swappedStores [.Tuple [.Name q.x q.px, .Name q.y q.py] kt tp] (.Tuple [q.a, q.b] k2 p4) env = pure none := by
  obtain ⟨x, px, y, py, a, b⟩ := q
  unfold parNone at h
  simp only [Bool.and_eq_true, Bool.not_eq_true', beq_iff_eq] at h
  obtain ⟨h1, h2, h3, h4⟩ := h
  have hb : env.blockKind = .function := h2
  have sa := starM a h3
  have sb := starM b h4
  have ea : ([a, b].any fun | .Starred .. => true | _ => false) = false := by
    rw [List.any_cons, List.any_cons, List.any_nil, Bool.or_false, Bool.or_eq_false_iff]
    exact ⟨sa, sb⟩
  have hlen : (([Expr.Name x px, Expr.Name y py].filterMap fun
      | .Name id pos => if env.kindOf id == some .local && pos.line == px.line then some id else none
      | _ => none).length != 2) = true := by
    have h1' : (env.kindOf x == some .local && (env.kindOf y == some .local && py.line == px.line)) = false := h1
    rw [List.filterMap_cons, List.filterMap_cons, List.filterMap_nil]
    simp only [beq_self_eq_true, Bool.and_true]
    cases hx : env.kindOf x == some NameKind.local with
    | false => simp [hx]; split <;> (rename_i e; (try split at e)) <;> simp_all
    | true =>
      rw [hx] at h1'
      simp only [Bool.true_and] at h1'
      rw [h1']
      simp
  show (do
    if !(([Expr.Name x px, Expr.Name y py].length == 2 || [Expr.Name x px, Expr.Name y py].length == 3)) || [a, b].length != [Expr.Name x px, Expr.Name y py].length || env.blockKind != .function then return none
    if [a, b].any fun | .Starred .. => true | _ => false then return none
    let names := [Expr.Name x px, Expr.Name y py].filterMap fun
      | .Name id pos => if env.kindOf id == some .local && pos.line == px.line then some id else none
      | _ => none
    if names.length != [Expr.Name x px, Expr.Name y py].length || names.eraseDups.length != names.length then return none
    if [a, b].all (foldedForSure 8) then return none
    if [a, b].all (constantsAlone 8) then unsupported "assign.tuple-of-constant-expressions:order-of-the-stores"
    return some names : Sem (Option (List Str))) = _
  rw [ea]
  have : ([Expr.Name x px, Expr.Name y py].length) = 2 := rfl
  rw [this]
  dsimp only
  rw [hlen]
  simp [hb]

def shRet : Stmt → Option Expr
  | .Return (some e) _ => some e
  | _ => none
theorem shRet_ok {s : Stmt} {e : Expr} (h : shRet s = some e) : ∃ p, s = .Return (some e) p := by
  unfold shRet at h
  split at h
  · cases h; exact ⟨_, rfl⟩
  · cases h
def shExp : Stmt → Option Expr
  | .Expr e _ => some e
  | _ => none
theorem shExp_ok {s : Stmt} {e : Expr} (h : shExp s = some e) : ∃ p, s = .Expr e p := by
  unfold shExp at h
  split at h
  · cases h; exact ⟨_, rfl⟩
  · cases h
structure IfS where
  c : Expr
  a : List Stmt
  b : List Stmt
def shIf : Stmt → Option IfS
  | .If c a b _ => some ⟨c, a, b⟩
  | _ => none
theorem shIf_ok {s : Stmt} {q : IfS} (h : shIf s = some q) : ∃ p, s = .If q.c q.a q.b p := by
  unfold shIf at h
  split at h
  · cases h; exact ⟨_, rfl⟩
  · cases h
structure ForS where
  t : Expr
  i : Expr
  b : List Stmt
def shFor : Stmt → Option ForS
  | .For t i b [] _ => some ⟨t, i, b⟩
  | _ => none
theorem shFor_ok {s : Stmt} {q : ForS} (h : shFor s = some q) : ∃ p, s = .For q.t q.i q.b [] p := by
  unfold shFor at h
  split at h
  · cases h; exact ⟨_, rfl⟩
  · cases h
def shWhile : Stmt → Option (Expr × List Stmt)
  | .While c b [] _ => some (c, b)
  | _ => none
theorem shWhile_ok {s : Stmt} {q : Expr × List Stmt} (h : shWhile s = some q) : ∃ p, s = .While q.1 q.2 [] p := by
  unfold shWhile at h
  split at h
  · cases h; exact ⟨_, rfl⟩
  · cases h
def isBrk : Stmt → Bool
  | .Break _ => true
  | _ => false
theorem isBrk_ok {s : Stmt} (h : isBrk s = true) : ∃ p, s = .Break p := by
  unfold isBrk at h
  split at h
  · exact ⟨_, rfl⟩
  · cases h
structure AppS where
  x : Str
  px : Pos
  e : Expr
def shApp : Stmt → Option AppS
  | .Expr (.Call (.Attribute (.Name x px) y ap) [e] [] p) _ => if decide (y = "append") && ((ap.endLine == p.line) && noStar e) then some ⟨x, px, e⟩ else none
  | _ => none
theorem shApp_ok {s : Stmt} {q : AppS} (h : shApp s = some q) : ∃ ap p p2, s = .Expr (.Call (.Attribute (.Name q.x q.px) "append" ap) [q.e] [] p) p2 ∧ (ap.endLine == p.line) = true ∧ noStar q.e = true := by
  unfold shApp at h
  split at h
  · split at h
    · rename_i h2
      cases h
      simp only [Bool.and_eq_true, decide_eq_true_eq] at h2
      obtain ⟨rfl, h3, h4⟩ := h2
      exact ⟨_, _, _, rfl, h3, h4⟩
    · cases h
  · cases h
structure StoS where
  x : Str
  px : Pos
  k : Expr
  v : Expr
def shSto : Stmt → Option StoS
  | .Assign [.Subscript (.Name x px) k _] v _ => if noSlice k && noTup v then some ⟨x, px, k, v⟩ else none
  | _ => none
theorem shSto_ok {s : Stmt} {q : StoS} (h : shSto s = some q) : ∃ p4 p, s = .Assign [.Subscript (.Name q.x q.px) q.k p4] q.v p ∧ noSlice q.k = true := by
  unfold shSto at h
  split at h
  · split at h
    · rename_i h2
      cases h
      simp only [Bool.and_eq_true] at h2
      exact ⟨_, _, rfl, h2.1⟩
    · cases h
  · cases h
theorem asgSub_ok {x : Str} {px p4 : Pos} {k : Expr} {env : Env} (h : noSlice k = true) : ∀ v, assign (.Subscript (.Name x px) k p4) env v = (do
      let ov ← holding [v] (eval (.Name x px) env)
      let iv ← holding [v, ov] (eval k env)
      standAt p4
      holding [v, ov, iv] (setItem ov iv v)
      release [v, ov, iv] []) := fun v => by
  cases k <;> first | rfl | cases h
/-- ints as constants -/
def mInts : List Int → List Expr → Bool
  | [], es => es.isEmpty
  | k :: ks, es => es.head?.elim false fun e => isC0 e k && mInts ks es.tail
theorem mInts_ok {X : Cx} : ∀ (ks : List Int) (es : List Expr), mInts ks es = true → PA X es (tInts ks)
  | [], es, h => by
    cases es with
    | nil => exact pa_nil
    | cons e es => cases h
  | k :: ks, es, h => by
    cases es with
    | nil => cases h
    | cons e es =>
      rw [mInts] at h
      simp only [List.head?_cons, Option.elim, List.tail_cons, Bool.and_eq_true] at h
      obtain ⟨j, p, rfl⟩ := isC0_ok h.1
      exact PA.imp (pa_cons pe_int (mInts_ok ks es h.2) (star_ok rfl)) fun σ H Q q => q
end Tw
set_option Elab.async false
set_option linter.all false
set_option maxRecDepth 100000
set_option maxHeartbeats 4000000
/-! The checker of statements, and what it passes. -/
namespace Tw
open PySem PySem.Spec PyProof.Rows L2
def isComp : Ex → Bool
  | .comp0 _ _ it _ => !isKeys it
  | .comp1 _ _ it _ _ => !isKeys it
  | _ => false
structure AugS where
  x : Str
  op : Operator
  e : Expr
def shAug : Stmt → Option AugS
  | .AugAssign (.Name x _) op e _ => some ⟨x, op, e⟩
  | _ => none
theorem shAug_ok {s : Stmt} {q : AugS} (h : shAug s = some q) : ∃ p p2, s = .AugAssign (.Name q.x p) q.op q.e p2 := by
  unfold shAug at h
  split at h
  · cases h; exact ⟨_, _, rfl⟩
  · cases h
structure AugX where
  x : Str
  px : Pos
  k : Expr
  op : Operator
  e : Expr
def shAugX : Stmt → Option AugX
  | .AugAssign (.Subscript (.Name x px) k _) op e _ => if noSlice k then some ⟨x, px, k, op, e⟩ else none
  | _ => none
theorem shAugX_ok {s : Stmt} {q : AugX} (h : shAugX s = some q) : ∃ p p2, s = .AugAssign (.Subscript (.Name q.x q.px) q.k p) q.op q.e p2 ∧ noSlice q.k = true := by
  unfold shAugX at h
  split at h
  · split at h
    · cases h; exact ⟨_, _, rfl, by assumption⟩
    · cases h
  · cases h
/-- y = x.pop() -/
def shPopTo : Stmt → Option (Str × Str)
  | .Assign [.Name y _] (.Call (.Attribute (.Name x _) m ap) [] [] p) _ => if decide (m = "pop") && (ap.endLine == p.line) then some (y, x) else none
  | _ => none
theorem shPopTo_ok {s : Stmt} {q : Str × Str} (h : shPopTo s = some q) : ∃ p4 p3 ap p2 p, s = .Assign [.Name q.1 p4] (.Call (.Attribute (.Name q.2 p3) "pop" ap) [] [] p2) p ∧ (ap.endLine == p2.line) = true := by
  unfold shPopTo at h
  split at h
  · split at h
    · rename_i h2
      cases h
      simp only [Bool.and_eq_true, decide_eq_true_eq] at h2
      obtain ⟨rfl, h3⟩ := h2
      exact ⟨_, _, _, _, _, rfl, h3⟩
    · cases h
  · cases h
def shPop : Stmt → Option Str
  | .Expr (.Call (.Attribute (.Name x _) m ap) [] [] p) _ => if decide (m = "pop") && (ap.endLine == p.line) then some x else none
  | _ => none
theorem shPop_ok {s : Stmt} {q : Str} (h : shPop s = some q) : ∃ p3 ap p2 p, s = .Expr (.Call (.Attribute (.Name q p3) "pop" ap) [] [] p2) p ∧ (ap.endLine == p2.line) = true := by
  unfold shPop at h
  split at h
  · split at h
    · rename_i h2
      cases h
      simp only [Bool.and_eq_true, decide_eq_true_eq] at h2
      obtain ⟨rfl, h3⟩ := h2
      exact ⟨_, _, _, _, rfl, h3⟩
    · cases h
  · cases h
def mPar (c : Ck) (is : List Nat) (es : Exs) (s : Stmt) : Bool := match is, es with
  | [i, j], .cons x (.cons y .nil) => (shPar s).elim false fun q =>
      (decide (i ≠ j) && (locB c i q.x && locB c j q.y)) && ((swapB c.sc q.x q.y q.px q.py q.a q.b || parNone c.sc q) && ((noStar q.a && noStar q.b) && (mE c x q.a && mE c y q.b)))
  | _, _ => false
def mNewCell (c : Ck) (i j : Nat) (ks : List Int) (s : Stmt) : Bool := (shAsg s).elim false fun q => (namePos q.t).elim false fun np => (shLst q.v).elim false fun es => es.head?.elim false fun e0 => (namePos e0).elim false fun n0 =>
  (locB c i np.1 && (visB c j n0.1 && decide (i ≠ j))) && (decide (ks.length ≤ 100) && mInts ks es.tail)
def isFz : Sm → Bool
  | .freeze _ => true
  | _ => false
mutual
def mS (c : Ck) : Sm → Stmt → Bool
  | .set i x, s => (shAsg s).elim false fun q => (namePos q.t).elim false fun np => locB c i np.1 && (mE c x q.v && (!(swV c.sc q.v np.1 np.2) || isComp x))
  | .setT ts x, s => (shAsg s).elim false fun q => isTup q.t && (mG c (.t ts) q.t && (noTup q.v && mE c x q.v))
  | .par is es, s => mPar c is es s
  | .newCell i j ks, s => mNewCell c i j ks s
  | .setCell i n x, s => (shSto s).elim false fun q => visB c i q.x && (isC0 q.k n && (noTup q.v && mE c x q.v))
  | .aug i o x, s => (shAug s).elim false fun q => locB c i q.x && (decide (augOp o = some q.op) && mE c x q.e)
  | .setIx i y x, s => (shSto s).elim false fun q => visB c i q.x && (mE c y q.k && (noTup q.v && mE c x q.v))
  | .augIx i y o x, s => (shAugX s).elim false fun q => visB c i q.x && (decide (augOp o = some q.op) && (mE c y q.k && mE c x q.e))
  | .append i x, s => (shApp s).elim false fun q => visB c i q.x && mE c x q.e
  | .popTo i j, s => (shPopTo s).elim false fun q => locB c i q.1 && visB c j q.2
  | .pop j, s => (shPop s).elim false fun q => visB c j q
  | .ret x, s => (shRet s).elim false fun e => mE c x e
  | .ifs x a b, s => (shIf s).elim false fun q => tOk q.c && (mE c x q.c && (mSs c a q.a && mSs c b q.b))
  | .for tg it b, s => (shFor s).elim false fun q => noSet q.i && (mG c tg q.t && ((mI c it q.t q.i || mK c it q.i) && mSs c b q.b))
  | .while x b, s => (shWhile s).elim false fun q => tOk q.1 && (mE c x q.1 && mSs c b q.2)
  | .brk, s => isBrk s
  | .expr x, s => (shExp s).elim false fun e => noComp e && mE c x e
  | .raise _ _ _, _ => false
  | .never, _ => true
  | .freeze _, _ => false
def mSs (c : Ck) : Sms → List Stmt → Bool
  | .nil, es => es.isEmpty
  | .cons s r, es => (isFz s && mSs c r es) || es.head?.elim false fun e => mS c s e && mSs c r es.tail
end
section
variable {X : Cx} {W : WX} {Old : Addr → Prop} {c : Ck} {C : Calls} {F : Nat} {n : Nat}
theorem noK {c : Ck} {it : It} {t e : Expr} (hk : isKeys it = false) (h : (mI c it t e || mK c it e) = true) : mI c it t e = true := by
  rcases Bool.or_eq_true_iff.mp h with h | h
  · exact h
  · obtain ⟨i, rfl, _⟩ := mK_ok h; cases hk
theorem comp0_ok {e : Expr} {elt : Ex} {tg : Tg} {it : It} {own : List Nat} (k : Cok X c C n W) (hk : isKeys it = false) (h : mE c (.comp0 elt tg it own) e = true) :
    ∃ eltE tgE itE sc p, e = .ListComp eltE [⟨tgE, itE, [], 0⟩] sc p ∧ CompOk X c C n W sc (ownP c own) tgE itE eltE tg it elt := by
  rw [mE] at h
  cases e1 : shComp e with
  | none => rw [e1] at h; cases h
  | some q =>
    rw [e1] at h
    obtain ⟨p, rfl⟩ := shComp_ok e1
    obtain ⟨eltE, tgE, itE, ifs, sc⟩ := q
    simp only [Option.elim, Bool.and_eq_true, compB] at h
    obtain ⟨hi, ⟨hb, hn, hg, ho⟩, hit, he⟩ := h
    have hit := noK hk hit
    cases ifs with
    | cons _ _ => cases hi
    | nil => exact ⟨eltE, tgE, itE, sc, p, rfl, mI_ok it k tgE itE hit, blk_of k hb, fun s H Ca cl fp => mG_ok (cok_blk k s H sc Ca cl fp) tg tgE hg, fun s H Ca cl fp => (mE_ok elt (cok_blk k s H sc Ca cl fp) eltE he).v, fold_ok hn X.env, by rw [ownP_snd]; exact all_own ho⟩
theorem comp1_ok {e : Expr} {elt cond : Ex} {tg : Tg} {it : It} {own : List Nat} (k : Cok X c C n W) (hk : isKeys it = false) (h : mE c (.comp1 elt tg it cond own) e = true) :
    ∃ eltE tgE itE ce sc p, e = .ListComp eltE [⟨tgE, itE, [ce], 0⟩] sc p ∧ CompOk X c C n W sc (ownP c own) tgE itE eltE tg it elt ∧
      ∀ (s : Shared) (H : Hp) (Ca : Addr) (cl : List (Str × Addr)) (fp : List Addr), PT (X.blk s H sc (compEnvC sc cl Ca X.env) fp) ce (tT (bsOf X) X.mg W0 (ev C cond)) := by
  rw [mE] at h
  cases e1 : shComp e with
  | none => rw [e1] at h; cases h
  | some q =>
    rw [e1] at h
    obtain ⟨p, rfl⟩ := shComp_ok e1
    obtain ⟨eltE, tgE, itE, ifs, sc⟩ := q
    simp only [Option.elim, Bool.and_eq_true, compB] at h
    obtain ⟨hi, ⟨hb, hn, hg, ho⟩, hit, he, hc⟩ := h
    have hit := noK hk hit
    cases ifs with
    | nil => cases hc
    | cons ce cs =>
      cases cs with
      | cons _ _ => cases hi
      | nil =>
        simp only [List.head?_cons, Option.elim, Bool.and_eq_true] at hc
        exact ⟨eltE, tgE, itE, ce, sc, p, rfl, ⟨mI_ok it k tgE itE hit, blk_of k hb, fun s H Ca cl fp => mG_ok (cok_blk k s H sc Ca cl fp) tg tgE hg, fun s H Ca cl fp => (mE_ok elt (cok_blk k s H sc Ca cl fp) eltE he).v, fold_ok hn X.env, by rw [ownP_snd]; exact all_own ho⟩, fun s H Ca cl fp => (mE_ok cond (cok_blk k s H sc Ca cl fp) ce hc.2).t hc.1⟩
theorem isFz_ok {s : Sm} (h : isFz s = true) : ∃ i, s = .freeze i := by
  cases s <;> first | (cases h; done) | exact ⟨_, rfl⟩
theorem set_ok {i : Nat} {x : Ex} {v : Expr} {t : Str} {tp pos : Pos} (k : Cok X c C n W) (hl : locB c i t = true) (he : mE c x v = true) (hs : (!(swV c.sc v t tp) || isComp x) = true) : VS X W Old (.Assign [.Name t tp] v pos) (ex C F (.set i x)) := by
  cases hw : swV c.sc v t tp with
  | false => exact vs_set k hl (swV_false (by rw [k.hsc]; exact hw)) (mE_ok x k v he).v
  | true =>
    rw [hw] at hs
    obtain ⟨h1, _, _⟩ := locB_ok k hl
    cases x with
    | comp0 elt tg it own =>
      obtain ⟨eltE, tgE, itE, sc, p, rfl, K⟩ := comp0_ok k (by simpa [isComp] using hs) he
      obtain ⟨s1, s2⟩ := swV_true (line := pos.line) (env := X.env) (by rw [k.hsc]; exact hw)
      have := vs_setLc0 (Old := Old) (F := F) (pos := pos) k K h1 s2 s1
      rw [ownP_snd] at this
      exact this
    | comp1 elt tg it cond own =>
      obtain ⟨eltE, tgE, itE, ce, sc, p, rfl, K, hc⟩ := comp1_ok k (by simpa [isComp] using hs) he
      obtain ⟨s1, s2⟩ := swV_true (line := pos.line) (env := X.env) (by rw [k.hsc]; exact hw)
      have := vs_setLc1 (Old := Old) (F := F) (pos := pos) k K hc h1 s2 s1
      rw [ownP_snd] at this
      exact this
    | _ => cases hs
theorem par_ok {is : List Nat} {es : Exs} {s : Stmt} (k : Cok X c C n W) (h : mPar c is es s = true) : VS X W Old s (ex C F (.par is es)) := by
  unfold mPar at h
  split at h
  · rename_i i j x y
    cases e1 : shPar s with
    | none => rw [e1] at h; cases h
    | some q =>
      rw [e1] at h
      simp only [Option.elim, Bool.and_eq_true, Bool.or_eq_true, decide_eq_true_eq] at h
      obtain ⟨⟨hij, hi, hj⟩, hsw, ⟨hsa, hsb⟩, ha, hb⟩ := h
      obtain ⟨kt, tp, k2, p4, p, rfl⟩ := shPar_ok e1
      have hso : swapsWithSole [.Tuple [.Name q.x q.px, .Name q.y q.py] kt tp] (.Tuple [q.a, q.b] k2 p4) p.line X.env = pure false := rfl
      rcases hsw with hsw | hsw
      · have hl := hsw
        unfold swapB at hl
        simp only [Bool.and_eq_true, beq_iff_eq] at hl
        exact vs_par2 k hij hi hj hl.2.1.1 hl.2.1.2.1 hsa hsb (swapB_ok (by rw [k.hsc]; exact hsw)) hso (mE_ok x k _ ha).v (mE_ok y k _ hb).v
      · exact vs_parT k hi hj hsa hsb (parNone_ok (by rw [k.hsc]; exact hsw)) hso (mE_ok x k _ ha).v (mE_ok y k _ hb).v
  · cases h
theorem newCell_ok {i j : Nat} {ks : List Int} {s : Stmt} (k : Cok X c C n W) (h : mNewCell c i j ks s = true) : VS X W Old s (ex C F (.newCell i j ks)) := by
  unfold mNewCell at h
  cases e1 : shAsg s with
  | none => rw [e1] at h; cases h
  | some q =>
    rw [e1] at h
    simp only [Option.elim] at h
    obtain ⟨p, rfl⟩ := shAsg_ok e1
    cases e2 : namePos q.t with
    | none => rw [e2] at h; cases h
    | some np =>
      rw [e2] at h
      simp only at h
      cases e3 : shLst q.v with
      | none => rw [e3] at h; cases h
      | some es =>
        rw [e3] at h
        simp only at h
        cases es with
        | nil => cases h
        | cons e0 es =>
          simp only [List.head?_cons, List.tail_cons] at h
          cases e4 : namePos e0 with
          | none => rw [e4] at h; cases h
          | some n0 =>
            rw [e4] at h
            simp only [Bool.and_eq_true, decide_eq_true_eq] at h
            obtain ⟨⟨h1, h2, h3⟩, h4, h5⟩ := h
            have ev := namePos_ok e2
            obtain ⟨p5, e5⟩ := shLst_ok e3
            have e6 := namePos_ok e4
            subst e6
            obtain ⟨t, v⟩ := q
            simp only at ev e5
            subst ev e5
            exact vs_newCell k h1 h2 h4 rfl (mInts_ok ks es h5) h3
end
theorem augSt_ok {k : Expr} (h : noSlice k = true) : ∀ ov iv new, augStore k ov iv new = (do holding [new, ov, iv] (setItem ov iv new); release [new, ov, iv] []; pure Flow.next) := fun ov iv new => by
  cases k <;> first | rfl | cases h
mutual
theorem mS_ok {C : Calls} {n F : Nat} {X : Cx} {W : WX} {Old : Addr → Prop} {c : Ck} (k : Cok X c C n W) (hp : PassesOwn (model X.prog X.w) X.A X.env X.xe) : ∀ (s : Sm) (st : Stmt), mS c s st = true → VS X W Old st (ex C F s)
  | .set i x, st, h => by
    rw [mS] at h
    cases e1 : shAsg st with
    | none => rw [e1] at h; cases h
    | some q =>
      rw [e1] at h
      obtain ⟨p, rfl⟩ := shAsg_ok e1
      obtain ⟨t, v⟩ := q
      simp only [Option.elim] at h
      cases e2 : namePos t with
      | none => rw [e2] at h; cases h
      | some np =>
        rw [e2] at h
        simp only [Bool.and_eq_true] at h
        have ev := namePos_ok e2
        subst ev
        exact set_ok k h.1 h.2.1 h.2.2
  | .setT ts x, st, h => by
    rw [mS] at h
    cases e1 : shAsg st with
    | none => rw [e1] at h; cases h
    | some q =>
      rw [e1] at h
      obtain ⟨p, rfl⟩ := shAsg_ok e1
      obtain ⟨t, v⟩ := q
      simp only [Option.elim, Bool.and_eq_true] at h
      obtain ⟨h1, h2, h3, h4⟩ := h
      cases t with
      | Tuple es kk tp => exact vs_setT k (mG_ok k (.t ts) _ h2) (sole_ok rfl) (stores_ok h3) rfl (mE_ok x k _ h4).v
      | _ => cases h1
  | .par is es, st, h => by rw [mS] at h; exact par_ok k h
  | .newCell i j ks, st, h => by rw [mS] at h; exact newCell_ok k h
  | .setCell i t x, st, h => by
    rw [mS] at h
    cases e1 : shSto st with
    | none => rw [e1] at h; cases h
    | some q =>
      rw [e1] at h
      obtain ⟨p4, p, rfl, hs⟩ := shSto_ok e1
      obtain ⟨xx, px, ke, v⟩ := q
      simp only [Option.elim, Bool.and_eq_true] at h
      obtain ⟨h1, h2, h3, h4⟩ := h
      obtain ⟨j, p5, e5⟩ := isC0_ok h2
      subst e5
      exact vs_setCell k h1 (sole_ok rfl) (stores_ok h3) rfl (asgSub_ok rfl) (mE_ok x k _ h4).v
  | .aug i o x, st, h => by
    rw [mS] at h
    cases e1 : shAug st with
    | none => rw [e1] at h; cases h
    | some q =>
      rw [e1] at h
      obtain ⟨p, p2, rfl⟩ := shAug_ok e1
      simp only [Option.elim, Bool.and_eq_true, decide_eq_true_eq] at h
      exact vs_aug k h.1 h.2.1 (mE_ok x k _ h.2.2).v
  | .setIx i y x, st, h => by
    rw [mS] at h
    cases e1 : shSto st with
    | none => rw [e1] at h; cases h
    | some q =>
      rw [e1] at h
      obtain ⟨p4, p, rfl, hs⟩ := shSto_ok e1
      simp only [Option.elim, Bool.and_eq_true] at h
      obtain ⟨h1, h2, h3, h4⟩ := h
      exact vs_setIx k h1 (sole_ok rfl) (stores_ok h3) rfl (asgSub_ok hs) (mE_ok y k _ h2).v (mE_ok x k _ h4).v
  | .augIx i y o x, st, h => by
    rw [mS] at h
    cases e1 : shAugX st with
    | none => rw [e1] at h; cases h
    | some q =>
      rw [e1] at h
      obtain ⟨p, p2, rfl, hs⟩ := shAugX_ok e1
      simp only [Option.elim, Bool.and_eq_true, decide_eq_true_eq] at h
      exact vs_augIx k h.1 h.2.1 (mE_ok y k _ h.2.2.1).v (mE_ok x k _ h.2.2.2).v (augSt_ok hs)
  | .append i x, st, h => by
    rw [mS] at h
    cases e1 : shApp st with
    | none => rw [e1] at h; cases h
    | some q =>
      rw [e1] at h
      obtain ⟨ap, p, p2, rfl, hl, hs⟩ := shApp_ok e1
      simp only [Option.elim, Bool.and_eq_true] at h
      exact vs_append k h.1 (nbase_ok rfl _ _ _) hl hs (few1 hs) (swN_ok rfl) (mE_ok x k _ h.2).v
  | .popTo i j, st, h => by
    rw [mS] at h
    cases e1 : shPopTo st with
    | none => rw [e1] at h; cases h
    | some q =>
      rw [e1] at h
      obtain ⟨p4, p3, ap, p2, p, rfl, hl⟩ := shPopTo_ok e1
      simp only [Option.elim, Bool.and_eq_true] at h
      exact vs_popTo k h.1 h.2 (nbase_ok rfl _ _ _) hl rfl
  | .pop j, st, h => by
    rw [mS] at h
    cases e1 : shPop st with
    | none => rw [e1] at h; cases h
    | some q =>
      rw [e1] at h
      obtain ⟨p3, ap, p2, p, rfl, hl⟩ := shPop_ok e1
      exact vs_pop k h (nbase_ok rfl _ _ _) hl rfl
  | .ret x, st, h => by
    rw [mS] at h
    cases e1 : shRet st with
    | none => rw [e1] at h; cases h
    | some e => rw [e1] at h; obtain ⟨p, rfl⟩ := shRet_ok e1; exact vs_ret (mE_ok x k _ h).v
  | .ifs x a b, st, h => by
    rw [mS] at h
    cases e1 : shIf st with
    | none => rw [e1] at h; cases h
    | some q =>
      rw [e1] at h
      obtain ⟨p, rfl⟩ := shIf_ok e1
      simp only [Option.elim, Bool.and_eq_true] at h
      exact vs_if ((mE_ok x k _ h.2.1).t h.1) (mSs_ok k hp a _ h.2.2.1) (mSs_ok k hp b _ h.2.2.2)
  | .for tg it b, st, h => by
    rw [mS] at h
    cases e1 : shFor st with
    | none => rw [e1] at h; cases h
    | some q =>
      rw [e1] at h
      obtain ⟨p, rfl⟩ := shFor_ok e1
      simp only [Option.elim, Bool.and_eq_true] at h
      obtain ⟨h1, h2, h3, h4⟩ := h
      rcases Bool.or_eq_true_iff.mp h3 with h3 | h3
      case inr =>
        obtain ⟨t, i, b'⟩ := q
        obtain ⟨j, rfl, ht⟩ := mK_ok h3
        obtain ⟨xx, px, ap, pk, e5, g1, g2, g3⟩ := shKeys_ok ht
        simp only at e5
        subst e5
        exact vs_forK k hp g1 (nbase_ok g2 _ _ _) g3 (fold_ok h1 X.env) (mG_ok k tg _ h2) (mSs_ok k hp b _ h4)
      have hk : isKeys it = false := by
        cases it <;> first | rfl | (rw [mI] at h3; cases h3)
      exact vs_for k hp hk (fold_ok h1 X.env) (mI_ok it k _ _ h3) (mG_ok k tg _ h2) (mSs_ok k hp b _ h4)
  | .while x b, st, h => by
    rw [mS] at h
    cases e1 : shWhile st with
    | none => rw [e1] at h; cases h
    | some q =>
      rw [e1] at h
      obtain ⟨p, rfl⟩ := shWhile_ok e1
      simp only [Option.elim, Bool.and_eq_true] at h
      exact vs_while hp ((mE_ok x k _ h.2.1).t h.1) (mSs_ok k hp b _ h.2.2)
  | .brk, st, h => by rw [mS] at h; obtain ⟨p, rfl⟩ := isBrk_ok h; exact vs_brk
  | .expr x, st, h => by
    rw [mS] at h
    cases e1 : shExp st with
    | none => rw [e1] at h; cases h
    | some e =>
      rw [e1] at h
      obtain ⟨p, rfl⟩ := shExp_ok e1
      simp only [Option.elim, Bool.and_eq_true] at h
      exact vs_expr (swN_ok h.1) (mE_ok x k _ h.2).v
  | .raise _ _ _, st, h => by rw [mS] at h; cases h
  | .never, st, h => vs_never
  | .freeze _, st, h => by rw [mS] at h; cases h
theorem mSs_ok {C : Calls} {n F : Nat} {X : Cx} {W : WX} {Old : Addr → Prop} {c : Ck} (k : Cok X c C n W) (hp : PassesOwn (model X.prog X.w) X.A X.env X.xe) : ∀ (s : Sms) (st : List Stmt), mSs c s st = true → VSs X W Old st (exs C F s)
  | .nil, st, h => by
    cases st with
    | nil => exact vss_nil
    | cons e es => rw [mSs] at h; cases h
  | .cons s r, st, h => by
    rw [mSs] at h
    simp only [Bool.or_eq_true, Bool.and_eq_true] at h
    rcases h with ⟨h1, h2⟩ | h
    · obtain ⟨i, rfl⟩ := isFz_ok h1
      exact vss_freeze (mSs_ok k hp r st h2)
    · cases st with
      | nil => cases h
      | cons e es =>
        simp only [List.head?_cons, Option.elim, List.tail_cons, Bool.and_eq_true] at h
        exact vss_cons (mS_ok k hp s e h.1) (mSs_ok k hp r es h.2)
end
end Tw
set_option Elab.async false
set_option linter.all false
set_option maxRecDepth 100000
set_option maxHeartbeats 4000000
/-! Defs. -/
namespace Tw
open PySem PySem.Spec PyProof.Rows L2
theorem argRs_get {B : Bs} {O : Hot} {ρ : Option Addr} {H : Hp} : ∀ {vs : List V} {xs : List Vl} {i : Nat} {x : Vl}, ArgRs B O ρ H vs xs → xs[i]? = some x → ∃ v, vs[i]? = some v ∧ ArgR B O ρ H v x
  | _, _, 0, x, .cons a b, e => by simp at e; subst e; exact ⟨_, rfl, a⟩
  | _, _, i + 1, x, .cons a b, e => by
    obtain ⟨v, e1, e2⟩ := argRs_get b (by simpa using e)
    exact ⟨v, by simpa using e1, e2⟩
  | _, _, _, x, .nil, e => by simp at e
theorem startS_get {nl : Nat} {xs : List Vl} {i : Nat} {s : Sl} (h : (startS nl xs)[i]? = some (some s)) : ∃ x, xs[i]? = some x ∧ s = slOf x := by
  unfold startS at h
  by_cases hi : i < xs.length
  · rw [List.getElem?_append_left (by simpa using hi), List.getElem?_map] at h
    cases e : xs[i]? with
    | none => rw [e] at h; cases h
    | some x => rw [e] at h; cases h; exact ⟨x, rfl, rfl⟩
  · rw [List.getElem?_append_right (by simpa using hi), List.getElem?_replicate] at h
    split at h <;> cases h
theorem slOf_own (x : Vl) : isOwn (slOf x) = false := by cases x <;> rfl
theorem ss_start {B : Bs} {O : Hot} {ρ : Option Addr} {H : Hp} {vs : List V} {xs : List Vl} {m : Mu} {N : List Str} {nl : Nat} (hot : ∀ a, O a → ∃ o, H a = some o) (c : Cell B O ρ H m) (r : ArgRs B O ρ H vs xs) (hn : nl ≤ N.length) (hx : xs.length ≤ nl) :
    Ss B (fun b => ∃ o, H b = some o) O ρ (L2.start N vs) H (startS nl xs) m := by
  have noOwn : ∀ (i : Nat) (s : Sl), (startS nl xs)[i]? = some (some s) → isOwn s = true → False := fun i s h o => by
    obtain ⟨x, _, rfl⟩ := startS_get h
    rw [slOf_own] at o; cases o
  refine ⟨⟨hot, fun i s h => ?_, c, ?_⟩, ⟨fun i s a h o => (noOwn i s h o).elim, fun i j s t a _ h o => (noOwn i s h o).elim⟩, fun b h => h⟩
  · obtain ⟨x, e, rfl⟩ := startS_get h
    obtain ⟨v, e1, r1⟩ := argRs_get r e
    refine ⟨v, ?_, ?_⟩
    · unfold L2.start
      rw [List.getElem?_append_left (by simp; exact (List.getElem?_eq_some_iff.mp e1).1), List.getElem?_map, e1]
      rfl
    · cases x with
      | d x => exact r1
      | cell => exact r1
  · unfold startS L2.start
    have := r.length
    simp
    omega
/-- a def as the proof knows it -/
structure Df where
  x : Str
  f : Nat
  ps : List Str
  N : List Str
  st : Stmt
  fn : Fn
def Df.ck (G : Glo) (d : Df) : Ck := ⟨G, d.N, defScope d.st, fun _ => true⟩
/-- what is looked at in the text -/
def dfB (G : Glo) (T : List Fn) (d : Df) : Bool :=
  decide (d.fn.np = d.ps.length) && (decide (d.fn.nl = d.N.length) && (decide (d.ps.length ≤ d.N.length) && mSs (d.ck G) d.fn.body (defBody d.st)))
/-- what stands behind the top -/
structure Wd (P : Program) (w : World) (K : PySem.W.Frag) (mg : Str → Option Value) (G : Glo) (T : List Fn) (ds : List Df) : Prop where
  blt : ∀ x ∈ bltNames, mg x = none
  cns : ∀ p ∈ G.consts, ∃ v u, mg p.1 = some u ∧ RelV v u ∧ ∀ O H, Rp ⟨P, w, K⟩ O H v p.2
  fns : ∀ p ∈ G.fns, ∃ d ∈ ds, d.x = p.1 ∧ d.f = p.2.1 ∧ d.ps.length = p.2.2
  dfs : ∀ d ∈ ds, T[d.f]? = some d.fn ∧ FnScope d.N d.ps (defScope d.st) ∧ dfB G T d = true ∧ ∃ a fd, mg d.x = some (.ref a) ∧ Fun K d.x d.x d.st a fd ∧ Binds K fd d.ps []
theorem Goes.back {O O' : Hot} {H H' : Hp} (hot : ∀ a, O a → ∃ o, H a = some o) (h : ∀ b, (∃ o, H b = some o) → (O' b ↔ O b)) : Goes O' O H' H' := fun b u n r => ⟨r, fun z => n ((h b (hot b z)).mpr z)⟩
/-- the end of a body -/
theorem pgs_end {B : Bs} {mg : Str → Option Value} {O : Hot} {ρ : Option Addr} {H : Hp} {m : Mu} {Q : VK} {E : XK} {x : Out (Flo × Ev)} (hot : ∀ a, O a → ∃ o, H a = some o) (c : Cell B O ρ H m)
    (h : match sameM m (endF x) with
      | .ok d m' => ∀ v H', Fr ρ H H' → Cell B O ρ H' m' → Rp B O H' v d → Q v H'
      | .ex c fs m' => ∀ cls d H', Fr ρ H H' → Cell B O ρ H' m' → XR B mg H' cls d c fs → E cls d H'
      | .bad => False) : PgS B mg (fun cls d _ H => E cls d H) (fun b => ∃ o, H b = some o) O ρ H { nx := fun _ H' => Q .non H', rt := Q } x := by
  have fr : ∀ {O' ρ' H'}, Mv (fun b => ∃ o, H b = some o) O ρ H O' ρ' H' → Fr ρ H H' := fun w b o ne e => w.old b o ⟨o, e⟩ ne e
  have cl : ∀ {O' ρ' H' m'}, (m.isNone == m'.isNone) = true → Mv (fun b => ∃ o, H b = some o) O ρ H O' ρ' H' → Cell B O' ρ' H' m' → Cell B O ρ H' m' := fun {O' ρ' H' m'} hm w c' => by
    cases m with
    | none =>
      cases m' with
      | none => exact c
      | some p => cases hm
    | some p =>
      have hρ : ρ' = ρ := by
        rcases w.rho with e | ⟨e, _⟩
        · exact e
        · obtain ⟨a, q, e1, _⟩ := c
          rw [e] at e1; cases e1
      subst hρ
      exact c'.hot fun a e => c.hρ a e
  cases x with
  | ok p m' =>
    obtain ⟨f, env'⟩ := p
    cases f with
    | next =>
      cases hm : (m.isNone == m'.isNone) with
      | false => simp only [endF, sameM, hm, Bool.false_eq_true, if_false] at h
      | true =>
        simp only [endF, sameM, hm, if_true] at h
        exact fun O' ρ' σ' H' S w => h .non H' (fr w) (cl hm w S.sr.cell) .non
    | brk => exact h.elim
    | ret d =>
      cases hm : (m.isNone == m'.isNone) with
      | false => simp only [endF, sameM, hm, Bool.false_eq_true, if_false] at h
      | true =>
        simp only [endF, sameM, hm, if_true] at h
        exact fun O' ρ' H' v c' _ w r => h v H' (fr w) (cl hm w c') (Rp.go (Goes.back hot w.hot) _ _ r)
  | ex c0 fs m' =>
    cases hm : (m.isNone == m'.isNone) with
    | false => simp only [endF, sameM, hm, Bool.false_eq_true, if_false] at h
    | true =>
      simp only [endF, sameM, hm, if_true] at h
      exact fun cls d O' ρ' σ' H' c' w xr => h cls d H' (fr w) (cl hm w c') xr
  | bad => exact h
theorem all_defs {P : Program} {w : World} {K : PySem.W.Frag} {mg : Str → Option Value} {base : Heap} {G : Glo} {T : List Fn} {ds : List Df} (Z : Wd P w K mg G T ds) (F : Nat) : ∀ (n : Nat) (d : Df), d ∈ ds → ∀ a fd, mg d.x = some (.ref a) → Fun K d.x d.x d.st a fd →
    FnOk P w K mg base (L2.CX P w) n a fd d.ps (spC ⟨P, w, K⟩ mg (callN T F n) d.ps.length d.f)
  | 0, d, hd, a, fd, e1, hf => ⟨fun vs H Q E h => h.1, fun A outer s H args us vs Q E hr he hb hv h => by
      obtain ⟨_, O, ρ, xs, m, _, _, _, h⟩ := h
      simp only [callN] at h⟩
  | n + 1, d, hd, a, fd, e1, hf => by
    obtain ⟨hT, hS, hB, _⟩ := Z.dfs d hd
    unfold dfB at hB
    simp only [Bool.and_eq_true, decide_eq_true_eq] at hB
    obtain ⟨b1, b2, b3, b4⟩ := hB
    refine hf.okX hS (fun vs H Q E h => h.1) fun cdv A outer s H vs Q E hr hsp => ?_
    obtain ⟨hlen, O, ρ, xs, m, hot, c, ar, h⟩ := hsp
    have k : Cok (cxOf (L2.CX P w) P w K mg base d.N d.x (defScope d.st) a cdv A outer s H E) (d.ck G) (callN T F n) n (fun cls dd _ H' => E cls dd H') :=
      { hN := rfl, hsc := rfl, nd := hS.nd, calm := rfl, hfn := rfl, room := hr, takes := takes_of rfl rfl rfl rfl, blt := Z.blt, cns := Z.cns,
        fns := fun p hp => by
          obtain ⟨d2, hd2, h1, h2, h3⟩ := Z.fns p hp
          obtain ⟨_, _, _, a2, fd2, g1, g2, g3⟩ := Z.dfs d2 hd2
          refine ⟨a2, fd2, d2.ps, by rw [← h1]; exact g1, g2.kp, g3, h3, ?_⟩
          have := all_defs (base := base) Z F n d2 hd2 a2 fd2 g1 g2
          rw [h3, h2] at this
          exact this }
    refine ⟨_, mSs_ok (Old := fun b => ∃ o, H b = some o) (F := F) k (passes_of rfl) d.fn.body (defBody d.st) b4, O, ρ, startS d.fn.nl xs, m, ss_start hot c ar (by omega) (by have := ar.length; omega), ?_⟩
    have hx : xs.length = d.fn.np := by have := ar.length; omega
    refine pgs_end hot c ?_
    have e : callN T F (n + 1) d.f xs m = sameM m (endF (exs (callN T F n) F d.fn.body (startS d.fn.nl xs) m)) := by
      show (match T[d.f]? with | some fn => if xs.length = fn.np then sameM m (endF (exs (callN T F n) F fn.body (startS fn.nl xs) m)) else .bad | none => .bad) = _
      rw [hT]
      simp only [hx, if_true]
    rw [e] at h
    exact h
end Tw
set_option Elab.async false
set_option linter.all false
set_option maxRecDepth 100000
set_option maxHeartbeats 4000000
/-! The law's def. -/
namespace Tw
open PySem PySem.Spec PyProof.Rows L2
def spL (K : PySem.W.Frag) (T : List Fn) (n : Nat) (fn : Fn) : Sp := fun vs H Q E => vs.length = 1 ∧ ∃ q ns F m, vs = [.ref q] ∧ Only H ∧ SqL K H q (ns.map V.int) ∧ lawN T F n fn ns = .ok (.bool true) m ∧ ∀ H', Q (.bl true) H'
theorem law_def {P : Program} {w : World} {K : PySem.W.Frag} {mg : Str → Option Value} {base : Heap} {G : Glo} {T : List Fn} {ds : List Df} (Z : Wd P w K mg G T ds) {n : Nat} {x : Str} {st : Stmt} {a : Addr} {fd : FuncData} {N : List Str} {p : Str} {fn : Fn}
    (hf : Fun K x x st a fd) (hS : FnScope N [p] (defScope st)) (hn : fn.nl = N.length) (hb : mSs ⟨G, N, defScope st, fun _ => true⟩ fn.body (defBody st) = true) : FnOk P w K mg base (L2.CX P w) (n + 1) a fd [p] (spL K T n fn) := by
  refine hf.okX hS (fun vs H Q E h => h.1) fun cdv A outer s H vs Q E hr hsp => ?_
  obtain ⟨hlen, q, ns, F, m, rfl, hO, hq, hl, hQ⟩ := hsp
  have k : Cok (cxOf (L2.CX P w) P w K mg base N x (defScope st) a cdv A outer s H E) ⟨G, N, defScope st, fun _ => true⟩ (callN T F n) n (fun cls dd _ H' => E cls dd H') :=
    { hN := rfl, hsc := rfl, nd := hS.nd, calm := rfl, hfn := rfl, room := hr, takes := takes_of rfl rfl rfl rfl, blt := Z.blt, cns := Z.cns,
      fns := fun p hp => by
        obtain ⟨d2, hd2, h1, h2, h3⟩ := Z.fns p hp
        obtain ⟨_, _, _, a2, fd2, g1, g2, g3⟩ := Z.dfs d2 hd2
        refine ⟨a2, fd2, d2.ps, by rw [← h1]; exact g1, g2.kp, g3, h3, ?_⟩
        have := all_defs (base := base) Z F n d2 hd2 a2 fd2 g1 g2
        rw [h3, h2] at this
        exact this }
  have hN1 : 1 ≤ N.length := by
    have := congrArg List.length hS.pre
    rw [List.length_take] at this
    simp at this
    omega
  have get0 : ∀ (i : Nat) (t : Sl), ((some (Sl.scr ns) :: List.replicate (fn.nl - 1) none : Ev))[i]? = some (some t) → i = 0 ∧ t = .scr ns := fun i t e => by
    cases i with
    | zero => simp at e; exact ⟨rfl, e.symm⟩
    | succ i =>
      rw [List.getElem?_cons_succ, List.getElem?_replicate] at e
      split at e <;> cases e
  have S : Ss (bsOf (cxOf (L2.CX P w) P w K mg base N x (defScope st) a cdv A outer s H E)) (fun b => ∃ o, H b = some o) (fun _ => False) none (L2.start N [.ref q]) H (some (.scr ns) :: List.replicate (fn.nl - 1) none) none := by
    refine ⟨⟨fun b h => h.elim, fun i t e => ?_, rfl, ?_⟩, ⟨fun i t b e o => ?_, fun i j t u b _ e o => ?_⟩, fun b h => h⟩
    · obtain ⟨rfl, rfl⟩ := get0 i t e
      refine ⟨.ref q, rfl, q, rfl, ?_⟩
      rcases hq with hq | hq
      · rcases hO q with h | ⟨o, xs, h⟩
        · rcases hq with hq | ⟨o, hq⟩ <;> (rw [h] at hq; cases hq)
        · rcases hq with hq | ⟨o', hq⟩
          · rw [h] at hq; cases hq
          · exact .inl ⟨by simp, o', hq⟩
      · exact .inr fun H' => .inr hq
    · unfold L2.start
      simp
      omega
    · obtain ⟨_, rfl⟩ := get0 i t e; cases o
    · obtain ⟨_, rfl⟩ := get0 i t e; cases o
  refine ⟨_, mSs_ok (Old := fun b => ∃ o, H b = some o) (F := F) k (passes_of rfl) fn.body (defBody st) hb, _, _, _, _, S, ?_⟩
  unfold lawN at hl
  cases ex : exs (callN T F n) F fn.body (some (.scr ns) :: List.replicate (fn.nl - 1) none) none with
  | ok pp m' =>
    rw [ex] at hl
    obtain ⟨f, env'⟩ := pp
    cases f with
    | next => simp [endF] at hl
    | brk => simp [endF] at hl
    | ret d =>
      simp only [endF] at hl
      cases hl
      intro O' ρ' H' v _ _ _ r
      cases r
      exact hQ H'
  | ex c0 fs m' => rw [ex] at hl; simp [endF] at hl
  | bad => rw [ex] at hl; simp [endF] at hl
end Tw
set_option Elab.async false
set_option linter.all false
set_option maxRecDepth 100000
set_option maxHeartbeats 4000000
namespace Tw
open PySem
/-- is_in (k00); id 0; slots 0:value 1:least 2:most -/
def b_is_in : Sms := (.cons (.ret (.and (.b1 .isInt (.var 0)) (.and (.not (.b1 .isBool (.var 0))) (.chain .le .le (.var 1) (.var 0) (.var 2)))))
  .nil)
def f_is_in : Fn := ⟨3, 3, b_is_in⟩
def N_is_in : List Str := ["value", "least", "most"]
/-- is_row (k00); id 1; slots 0:value 1:one -/
def b_is_row : Sms := (.cons (.ifs (.or (.not (.b1 .isTuple (.var 0))) (.cmp .ne (.comp1 (.var 1) (.n 1) (.val (.var 0)) (.not (.call 0 (.cons (.var 1) (.cons (.lit (.int 0)) (.cons (.bin .sub (.b1 .len (.var 0)) (.lit (.int 1))) .nil))))) [1]) (.lst .nil))) (.cons (.ret (.lit (.bool false)))
  .nil) .nil)
  (.cons (.ret (.cmp .eq (.b1 .sortedSet (.var 0)) (.b1 .listRange (.b1 .lenSet (.var 0)))))
  .nil))
def f_is_row : Fn := ⟨1, 2, b_is_row⟩
def N_is_row : List Str := ["value", "one"]
/-- is_rule (k00); id 2; slots 0:value -/
def b_is_rule : Sms := (.cons (.ifs (.or (.not (.b1 .isTuple (.var 0))) (.or (.cmp .ne (.b1 .len (.var 0)) (.lit (.int 2))) (.or (.not (.call 1 (.cons (.ix (.var 0) (.lit (.int 0))) .nil))) (.not (.call 1 (.cons (.ix (.var 0) (.lit (.int 1))) .nil)))))) (.cons (.ret (.lit (.bool false)))
  .nil) .nil)
  (.cons (.ret (.and (.chain .le .le (.lit (.int 2)) (.b1 .len (.ix (.var 0) (.lit (.int 0)))) (.glob "MOST_LONG" (.int 4))) (.and (.cmp .eq (.b1 .sorted (.ix (.var 0) (.lit (.int 0)))) (.b1 .sorted (.ix (.var 0) (.lit (.int 1))))) (.cmp .ne (.ix (.var 0) (.lit (.int 0))) (.ix (.var 0) (.lit (.int 1)))))))
  .nil))
def f_is_rule : Fn := ⟨1, 1, b_is_rule⟩
def N_is_rule : List Str := ["value"]
/-- need_book (k00); id 3; slots 0:book 1:index 2:one -/
def b_need_book : Sms := (.cons (.ifs (.or (.not (.b1 .isTuple (.var 0))) (.cmp .gt (.b1 .len (.var 0)) (.glob "MOST_RULES" (.int 8)))) (.cons .never
  .nil) .nil)
  (.cons (.for (.t (.cons (.n 1) (.cons (.n 2) .nil))) (.enum (.var 0)) (.cons (.ifs (.or (.not (.call 2 (.cons (.var 2) .nil))) (.and (.cmp .gt (.var 1) (.lit (.int 0))) (.cmp .le (.var 2) (.ix (.var 0) (.bin .sub (.var 1) (.lit (.int 1))))))) (.cons .never
  .nil) .nil)
  .nil))
  .nil))
def f_need_book : Fn := ⟨1, 3, b_need_book⟩
def N_need_book : List Str := ["book", "index", "one"]
/-- need_row (k00); id 4; slots 0:row 1:most 2:index 3:one -/
def b_need_row : Sms := (.cons (.ifs (.or (.not (.b1 .isTuple (.var 0))) (.cmp .gt (.b1 .len (.var 0)) (.var 1))) (.cons .never
  .nil) .nil)
  (.cons (.for (.t (.cons (.n 2) (.cons (.n 3) .nil))) (.enum (.var 0)) (.cons (.ifs (.not (.call 0 (.cons (.var 3) (.cons (.lit (.int 0)) (.cons (.bin .sub (.b1 .len (.var 0)) (.lit (.int 1))) .nil))))) (.cons .never
  .nil) .nil)
  .nil))
  (.cons (.ifs (.not (.call 1 (.cons (.var 0) .nil))) (.cons .never
  .nil) .nil)
  .nil)))
def f_need_row : Fn := ⟨2, 4, b_need_row⟩
def N_need_row : List Str := ["row", "most", "index", "one"]
/-- spots (k00); id 5; slots 0:many 1:long 2:found 3:turn 4:more 5:line 6:first 7:at -/
def b_spots : Sms := (.cons (.set 2 (.lst (.cons (.tup .nil) .nil)))
  (.cons (.for (.n 3) (.range1 (.var 1)) (.cons (.set 4 (.lst .nil))
  (.cons (.freeze 2)
  (.cons (.for (.n 5) (.val (.var 2)) (.cons (.set 6 (.ite (.cmp .ne (.var 5) (.tup .nil)) (.bin .add (.ix (.var 5) (.neg (.lit (.int 1)))) (.lit (.int 1))) (.lit (.int 0))))
  (.cons (.set 4 (.bin .add (.var 4) (.comp0 (.bin .add (.var 5) (.tup (.cons (.var 7) .nil))) (.n 7) (.range2 (.var 6) (.var 0)) [7])))
  .nil)))
  (.cons (.freeze 4)
  (.cons (.set 2 (.var 4))
  .nil))))))
  (.cons (.freeze 2)
  (.cons (.ret (.var 2))
  .nil))))
def f_spots : Fn := ⟨2, 8, b_spots⟩
def N_spots : List Str := ["many", "long", "found", "turn", "more", "line", "first", "at"]
/-- lie (k00); id 6; slots 0:numbers 1:ranks 2:one -/
def b_lie : Sms := (.cons (.set 1 (.b1 .sortedSet (.var 0)))
  (.cons (.freeze 1)
  (.cons (.ret (.tup (.cons (.b1 .tuple (.comp0 (.b2 .index (.var 1) (.var 2)) (.n 2) (.val (.var 0)) [2])) (.cons (.var 1) .nil))))
  .nil)))
def f_lie : Fn := ⟨1, 3, b_lie⟩
def N_lie : List Str := ["numbers", "ranks", "one"]
/-- steps_in (k00); id 7; slots 0:book 1:row 2:found 3:before 4:after 5:line 6:order 7:ranks 8:there 9:at 10:one -/
def b_steps_in : Sms := (.cons (.set 2 .emptyDict)
  (.cons (.for (.t (.cons (.n 3) (.cons (.n 4) .nil))) (.val (.var 0)) (.cons (.for (.n 5) (.val (.call 5 (.cons (.b1 .len (.var 1)) (.cons (.b1 .len (.var 3)) .nil)))) (.cons (.setT (.cons (.n 6) (.cons (.n 7) .nil)) (.call 6 (.cons (.comp0 (.ix (.var 1) (.var 9)) (.n 9) (.val (.var 5)) [9]) .nil)))
  (.cons (.ifs (.cmp .eq (.var 6) (.var 3)) (.cons (.set 8 (.b1 .list (.var 1)))
  (.cons (.for (.t (.cons (.n 9) (.cons (.n 10) .nil))) (.zip (.var 5) (.var 4)) (.cons (.setIx 8 (.var 9) (.ix (.var 7) (.var 10)))
  .nil))
  (.cons (.setIx 2 (.b1 .tuple (.var 8)) (.lit (.bool true)))
  .nil))) .nil)
  .nil)))
  .nil))
  (.cons (.ret (.b1 .keys (.var 2)))
  .nil)))
def f_steps_in : Fn := ⟨2, 11, b_steps_in⟩
def N_steps_in : List Str := ["book", "row", "found", "before", "after", "line", "order", "ranks", "there", "at", "one"]
/-- need_both (k00); id 8; slots 0:book 1:row -/
def b_need_both : Sms := (.cons (.expr (.call 3 (.cons (.var 0) .nil)))
  (.cons (.expr (.call 4 (.cons (.var 1) (.cons (.glob "MOST_ROW" (.int 6)) .nil))))
  .nil))
def f_need_both : Fn := ⟨2, 2, b_need_both⟩
def N_need_both : List Str := ["book", "row"]
/-- steps (k00); id 9; slots 0:book 1:row -/
def b_steps : Sms := (.cons (.expr (.call 8 (.cons (.var 0) (.cons (.var 1) .nil))))
  (.cons (.ret (.b1 .tuple (.call 7 (.cons (.var 0) (.cons (.var 1) .nil)))))
  .nil))
def f_steps : Fn := ⟨2, 2, b_steps⟩
def N_steps : List Str := ["book", "row"]
/-- come_in (k00); id 10; slots 0:book 1:row 2:found 3:rows 4:here -/
def b_come_in : Sms := (.cons (.par [2, 3] (.cons .emptyDict (.cons (.lst (.cons (.var 1) .nil)) .nil)))
  (.cons (.while (.cmp .ne (.var 3) (.lst .nil)) (.cons (.popTo 4 3)
  (.cons (.ifs (.cmp .notin (.var 4) (.var 2)) (.cons (.setIx 2 (.var 4) (.call 7 (.cons (.var 0) (.cons (.var 4) .nil))))
  (.cons (.set 3 (.bin .add (.var 3) (.ix (.var 2) (.var 4))))
  .nil)) .nil)
  .nil)))
  (.cons (.freeze 2)
  (.cons (.ret (.var 2))
  .nil))))
def f_come_in : Fn := ⟨2, 5, b_come_in⟩
def N_come_in : List Str := ["book", "row", "found", "rows", "here"]
/-- all_come (k00); id 11; slots 0:book 1:row -/
def b_all_come : Sms := (.cons (.expr (.call 8 (.cons (.var 0) (.cons (.var 1) .nil))))
  (.cons (.ret (.b1 .keys (.call 10 (.cons (.var 0) (.cons (.var 1) .nil)))))
  .nil))
def f_all_come : Fn := ⟨2, 2, b_all_come⟩
def N_all_come : List Str := ["book", "row"]
/-- walked_rests (k00); id 12; slots 0:book 1:row 2:told 3:here -/
def b_walked_rests : Sms := (.cons (.expr (.call 8 (.cons (.var 0) (.cons (.var 1) .nil))))
  (.cons (.set 2 (.call 10 (.cons (.var 0) (.cons (.var 1) .nil))))
  (.cons (.ret (.b1 .sorted (.comp1 (.var 3) (.n 3) (.keys (.var 2)) (.cmp .eq (.ix (.var 2) (.var 3)) (.lst .nil)) [3])))
  .nil)))
def f_walked_rests : Fn := ⟨2, 4, b_walked_rests⟩
def N_walked_rests : List Str := ["book", "row", "told", "here"]
/-- order_in (k00); id 13; slots 0:told 1:here 2:waiting 3:backs 4:there 5:rows 6:found 7:back -/
def b_order_in : Sms := (.cons (.par [2, 3] (.cons .emptyDict (.cons .emptyDict .nil)))
  (.cons (.for (.n 1) (.keys (.var 0)) (.cons (.setIx 2 (.var 1) (.b1 .len (.ix (.var 0) (.var 1))))
  (.cons (.for (.n 4) (.val (.ix (.var 0) (.var 1))) (.cons (.setIx 3 (.var 4) (.bin .add (.get3 (.var 3) (.var 4) (.lst .nil)) (.lst (.cons (.var 1) .nil))))
  .nil))
  .nil)))
  (.cons (.par [5, 6] (.cons (.b1 .sorted (.comp1 (.var 1) (.n 1) (.keys (.var 0)) (.cmp .eq (.ix (.var 0) (.var 1)) (.lst .nil)) [1])) (.cons (.lst .nil) .nil)))
  (.cons (.while (.cmp .ne (.var 5) (.lst .nil)) (.cons (.popTo 1 5)
  (.cons (.append 6 (.var 1))
  (.cons (.freeze 3)
  (.cons (.for (.n 7) (.val (.get3 (.var 3) (.var 1) (.lst .nil))) (.cons (.augIx 2 (.var 7) .sub (.lit (.int 1)))
  (.cons (.ifs (.cmp .eq (.ix (.var 2) (.var 7)) (.lit (.int 0))) (.cons (.append 5 (.var 7))
  .nil) .nil)
  .nil)))
  .nil)))))
  (.cons (.freeze 6)
  (.cons (.ret (.ite (.cmp .eq (.b1 .len (.var 6)) (.b1 .len (.var 0))) (.var 6) (.lit .none)))
  .nil))))))
def f_order_in : Fn := ⟨1, 8, b_order_in⟩
def N_order_in : List Str := ["told", "here", "waiting", "backs", "there", "rows", "found", "back"]
/-- goes_on (k00); id 14; slots 0:book 1:row -/
def b_goes_on : Sms := (.cons (.expr (.call 8 (.cons (.var 0) (.cons (.var 1) .nil))))
  (.cons (.ret (.isNone (.call 13 (.cons (.call 10 (.cons (.var 0) (.cons (.var 1) .nil))) .nil))))
  .nil))
def f_goes_on : Fn := ⟨2, 2, b_goes_on⟩
def N_goes_on : List Str := ["book", "row"]
/-- longest (k00); id 15; slots 0:book 1:row 2:told 3:order 4:found 5:here 6:there -/
def b_longest : Sms := (.cons (.expr (.call 8 (.cons (.var 0) (.cons (.var 1) .nil))))
  (.cons (.set 2 (.call 10 (.cons (.var 0) (.cons (.var 1) .nil))))
  (.cons (.set 3 (.call 13 (.cons (.var 2) .nil)))
  (.cons (.ifs (.isNone (.var 3)) (.cons .never
  .nil) .nil)
  (.cons (.set 4 .emptyDict)
  (.cons (.for (.n 5) (.val (.var 3)) (.cons (.setIx 4 (.var 5) (.bin .add (.b1 .max (.bin .add (.lst (.cons (.neg (.lit (.int 1))) .nil)) (.comp0 (.ix (.var 4) (.var 6)) (.n 6) (.val (.ix (.var 2) (.var 5))) [6]))) (.lit (.int 1))))
  .nil))
  (.cons (.ret (.ix (.var 4) (.var 1)))
  .nil)))))))
def f_longest : Fn := ⟨2, 7, b_longest⟩
def N_longest : List Str := ["book", "row", "told", "order", "found", "here", "there"]
/-- _law_taken (k00); id 16; slots 0:_law_row 1:_law_many 2:_law_cell 3:_law_found -/
def b_law_taken : Sms := (.cons (.ifs (.cmp .gt (.cellIx 0 3) (.lit (.int 0))) (.cons (.set 3 (.bin .mod (.b1 .int (.cellIx 0 3)) (.var 1)))
  (.cons (.setCell 0 3 (.bin .fdiv (.cellIx 0 3) (.var 1)))
  (.cons (.ret (.var 3))
  .nil))) .nil)
  (.cons (.setCell 0 1 (.bin .add (.cellIx 0 1) (.lit (.int 1))))
  (.cons (.ifs (.cmp .gt (.cellIx 0 1) (.scrLen 0)) (.cons (.setCell 0 2 (.bin .mod (.b1 .int (.bin .add (.bin .mul (.cellIx 0 2) (.lit (.int 48271))) (.lit (.int 11)))) (.lit (.int 2147483647))))
  (.cons (.ret (.bin .mod (.b1 .int (.bin .fdiv (.cellIx 0 2) (.lit (.int 7)))) (.var 1)))
  .nil)) .nil)
  (.cons (.set 2 (.scrIx 0 (.bin .sub (.cellIx 0 1) (.lit (.int 1)))))
  (.cons (.setCell 0 2 (.bin .mod (.b1 .int (.bin .add (.bin .add (.bin .mul (.cellIx 0 2) (.lit (.int 48271))) (.var 2)) (.lit (.int 11)))) (.lit (.int 2147483647))))
  (.cons (.ifs (.cmp .ge (.var 2) (.bin .pow (.lit (.int 10)) (.lit (.int 18)))) (.cons (.setCell 0 3 (.bin .fdiv (.var 2) (.var 1)))
  .nil) .nil)
  (.cons (.ret (.bin .mod (.b1 .int (.var 2)) (.var 1)))
  .nil)))))))
def f_law_taken : Fn := ⟨2, 4, b_law_taken⟩
def N_law_taken : List Str := ["_law_row", "_law_many", "_law_cell", "_law_found"]
/-- _law_order (k00); id 17; slots 0:_law_row 1:_law_many 2:_law_turn 3:_law_left 4:_law_found 5:_law_at -/
def b_law_order : Sms := (.cons (.par [3, 4] (.cons (.b1 .listRange (.var 1)) (.cons (.lst .nil) .nil)))
  (.cons (.for (.n 2) (.range1 (.var 1)) (.cons (.set 5 (.call 16 (.cons (.var 0) (.cons (.b1 .len (.var 3)) .nil))))
  (.cons (.append 4 (.ix (.var 3) (.var 5)))
  (.cons (.set 3 (.bin .add (.sliceTo (.var 3) (.var 5)) (.sliceFrom (.var 3) (.bin .add (.var 5) (.lit (.int 1))))))
  .nil))))
  (.cons (.freeze 4)
  (.cons (.ret (.var 4))
  .nil))))
def f_law_order : Fn := ⟨2, 6, b_law_order⟩
def N_law_order : List Str := ["_law_row", "_law_many", "_law_turn", "_law_left", "_law_found", "_law_at"]
/-- _law_lie (k00); id 18; slots 0:_law_numbers 1:_law_one 2:_law_other -/
def b_law_lie : Sms := (.cons (.ret (.b1 .tuple (.comp0 (.b1 .lenSet (.comp1 (.var 2) (.n 2) (.val (.var 0)) (.cmp .lt (.var 2) (.var 1)) [2])) (.n 1) (.val (.var 0)) [1])))
  .nil)
def f_law_lie : Fn := ⟨1, 3, b_law_lie⟩
def N_law_lie : List Str := ["_law_numbers", "_law_one", "_law_other"]
/-- _law_drawn (k00); id 19; slots 0:_law_row 1:_law_many 2:_law_most 3:_law_k -/
def b_law_drawn : Sms := (.cons (.ifs (.cmp .eq (.call 16 (.cons (.var 0) (.cons (.lit (.int 2)) .nil))) (.lit (.int 0))) (.cons (.ret (.b1 .tuple (.call 17 (.cons (.var 0) (.cons (.var 1) .nil)))))
  .nil) .nil)
  (.cons (.set 2 (.bin .add (.lit (.int 1)) (.call 16 (.cons (.var 0) (.cons (.lit (.int 4)) .nil)))))
  (.cons (.ret (.call 18 (.cons (.comp0 (.call 16 (.cons (.var 0) (.cons (.var 2) .nil))) (.n 3) (.range1 (.var 1)) [3]) .nil)))
  .nil)))
def f_law_drawn : Fn := ⟨2, 4, b_law_drawn⟩
def N_law_drawn : List Str := ["_law_row", "_law_many", "_law_most", "_law_k"]
/-- _law_rule (k00); id 20; slots 0:_law_row 1:_law_most 2:_law_size 3:_law_before 4:_law_after 5:_law_k -/
def b_law_rule : Sms := (.cons (.set 2 (.bin .add (.lit (.int 2)) (.call 16 (.cons (.var 0) (.cons (.bin .sub (.var 1) (.lit (.int 1))) .nil)))))
  (.cons (.set 3 (.call 19 (.cons (.var 0) (.cons (.var 2) .nil))))
  (.cons (.set 3 (.ite (.cmp .gt (.b1 .max (.var 3)) (.lit (.int 0))) (.var 3) (.bin .add (.sliceTo (.var 3) (.bin .sub (.var 2) (.lit (.int 1)))) (.tup (.cons (.lit (.int 1)) .nil)))))
  (.cons (.set 4 (.b1 .tuple (.comp0 (.ix (.var 3) (.var 5)) (.n 5) (.val (.call 17 (.cons (.var 0) (.cons (.var 2) .nil)))) [5])))
  (.cons (.ifs (.cmp .eq (.var 3) (.var 4)) (.cons (.set 4 (.bin .add (.sliceFrom (.var 3) (.lit (.int 1))) (.sliceTo (.var 3) (.lit (.int 1)))))
  .nil) .nil)
  (.cons (.ret (.tup (.cons (.var 3) (.cons (.var 4) .nil))))
  .nil))))))
def f_law_rule : Fn := ⟨2, 6, b_law_rule⟩
def N_law_rule : List Str := ["_law_row", "_law_most", "_law_size", "_law_before", "_law_after", "_law_k"]
/-- _law_signs (k00); id 21; slots 0:_law_rule_here 1:_law_found 2:_law_number 3:_law_before 4:_law_after 5:_law_gains 6:_law_moved 7:_law_comes 8:_law_k 9:_law_one -/
def b_law_signs : Sms := (.cons (.setT (.cons (.n 3) (.cons (.n 4) .nil)) (.var 0))
  (.cons (.par [5, 6] (.cons (.comp1 (.bin .sub (.ix (.var 4) (.var 8)) (.ix (.var 3) (.var 8))) (.n 8) (.range1 (.b1 .len (.var 3))) (.cmp .ne (.ix (.var 4) (.var 8)) (.ix (.var 3) (.var 8))) [8]) (.cons (.lst .nil) .nil)))
  (.cons (.set 1 (.lst (.cons (.ite (.cmp .gt (.ix (.var 5) (.lit (.int 0))) (.lit (.int 0))) (.lit (.int 1)) (.neg (.lit (.int 1)))) (.cons (.ite (.cmp .gt (.ix (.var 5) (.bin .sub (.b1 .len (.var 5)) (.lit (.int 1)))) (.lit (.int 0))) (.lit (.int 1)) (.neg (.lit (.int 1)))) .nil))))
  (.cons (.for (.n 2) (.range1 (.bin .add (.b1 .max (.var 3)) (.lit (.int 1)))) (.cons (.set 7 (.comp0 (.bin .sub (.b1 .int (.cmp .eq (.ix (.var 4) (.var 8)) (.var 2))) (.b1 .int (.cmp .eq (.ix (.var 3) (.var 8)) (.var 2)))) (.n 8) (.range1 (.b1 .len (.var 3))) [8]))
  (.cons (.set 7 (.comp1 (.var 9) (.n 9) (.val (.var 7)) (.cmp .ne (.var 9) (.lit (.int 0))) [9]))
  (.cons (.ifs (.cmp .ne (.var 7) (.lst .nil)) (.cons (.append 6 (.tup (.cons (.bin .sub (.lit (.int 0)) (.ix (.var 7) (.lit (.int 0)))) (.cons (.ix (.var 7) (.bin .sub (.b1 .len (.var 7)) (.lit (.int 1)))) .nil))))
  .nil) .nil)
  .nil))))
  (.cons (.ret (.bin .add (.bin .add (.b1 .tuple (.var 1)) (.ix (.var 6) (.lit (.int 0)))) (.ix (.var 6) (.bin .sub (.b1 .len (.var 6)) (.lit (.int 1))))))
  .nil)))))
def f_law_signs : Fn := ⟨1, 10, b_law_signs⟩
def N_law_signs : List Str := ["_law_rule_here", "_law_found", "_law_number", "_law_before", "_law_after", "_law_gains", "_law_moved", "_law_comes", "_law_k", "_law_one"]
/-- _law_book (k00); id 22; slots 0:_law_row 1:_law_most 2:_law_turn 3:_law_way 4:_law_rules 5:_law_before 6:_law_after -/
def b_law_book : Sms := (.cons (.par [3, 4] (.cons (.call 16 (.cons (.var 0) (.cons (.lit (.int 9)) .nil))) (.cons .emptyDict .nil)))
  (.cons (.for (.n 2) (.range1 (.bin .add (.lit (.int 1)) (.call 16 (.cons (.var 0) (.cons (.lit (.int 3)) .nil))))) (.cons (.setT (.cons (.n 5) (.cons (.n 6) .nil)) (.call 20 (.cons (.var 0) (.cons (.var 1) .nil))))
  (.cons (.ifs (.and (.cmp .lt (.var 3) (.lit (.int 6))) (.cmp .lt (.ix (.call 21 (.cons (.tup (.cons (.var 5) (.cons (.var 6) .nil))) .nil)) (.var 3)) (.lit (.int 0)))) (.cons (.par [5, 6] (.cons (.var 6) (.cons (.var 5) .nil)))
  .nil) .nil)
  (.cons (.setIx 4 (.tup (.cons (.var 5) (.cons (.var 6) .nil))) (.lit (.bool true)))
  .nil))))
  (.cons (.ret (.b1 .tuple (.b1 .keys (.var 4))))
  .nil)))
def f_law_book : Fn := ⟨2, 7, b_law_book⟩
def N_law_book : List Str := ["_law_row", "_law_most", "_law_turn", "_law_way", "_law_rules", "_law_before", "_law_after"]
/-- _law_alike (k00); id 23; slots 0:_law_found 1:_law_due 2:_law_k -/
def b_law_alike : Sms := (.cons (.ifs (.b1 .isTupleList (.var 1)) (.cons (.ifs (.or (.not (.b1 .isTupleList (.var 0))) (.cmp .ne (.b1 .isList (.var 0)) (.b1 .isList (.var 1)))) (.cons (.ret (.lit (.bool false)))
  .nil) .nil)
  (.cons (.ifs (.cmp .ne (.b1 .len (.var 0)) (.b1 .len (.var 1))) (.cons (.ret (.lit (.bool false)))
  .nil) .nil)
  (.cons (.ret (.cmp .eq (.comp1 (.var 2) (.n 2) (.range1 (.b1 .len (.var 1))) (.not (.call 23 (.cons (.ix (.var 0) (.var 2)) (.cons (.ix (.var 1) (.var 2)) .nil)))) [2]) (.lst .nil)))
  .nil))) .nil)
  (.cons (.ifs (.or (.isNone (.var 1)) (.b1 .isStr (.var 1))) (.cons (.ret (.and (.cmp .eq (.var 0) (.var 1)) (.cmp .eq (.b1 .isStr (.var 0)) (.b1 .isStr (.var 1)))))
  .nil) .nil)
  (.cons (.ret (.and (.b1 .isInt (.var 0)) (.and (.cmp .eq (.b1 .isBool (.var 0)) (.b1 .isBool (.var 1))) (.cmp .eq (.var 0) (.var 1)))))
  .nil)))
def f_law_alike : Fn := ⟨2, 3, b_law_alike⟩
def N_law_alike : List Str := ["_law_found", "_law_due", "_law_k"]
/-- _law_spots (k00); id 24; slots 0:_law_many 1:_law_long 2:_law_found 3:_law_turn 4:_law_more 5:_law_line 6:_law_at -/
def b_law_spots : Sms := (.cons (.set 2 (.lst (.cons (.tup .nil) .nil)))
  (.cons (.for (.n 3) (.range1 (.var 1)) (.cons (.set 4 (.lst .nil))
  (.cons (.freeze 2)
  (.cons (.for (.n 5) (.val (.var 2)) (.cons (.set 4 (.bin .add (.var 4) (.comp0 (.bin .add (.var 5) (.tup (.cons (.var 6) .nil))) (.n 6) (.range2 (.ite (.cmp .ne (.var 5) (.tup .nil)) (.bin .add (.ix (.var 5) (.neg (.lit (.int 1)))) (.lit (.int 1))) (.lit (.int 0))) (.var 0)) [6])))
  .nil))
  (.cons (.freeze 4)
  (.cons (.set 2 (.var 4))
  .nil))))))
  (.cons (.freeze 2)
  (.cons (.ret (.var 2))
  .nil))))
def f_law_spots : Fn := ⟨2, 7, b_law_spots⟩
def N_law_spots : List Str := ["_law_many", "_law_long", "_law_found", "_law_turn", "_law_more", "_law_line", "_law_at"]
/-- _law_steps (k00); id 25; slots 0:_law_book_here 1:_law_here 2:_law_found 3:_law_before 4:_law_after 5:_law_line 6:_law_some 7:_law_k 8:_law_at 9:_law_there 10:_law_ranks -/
def b_law_steps : Sms := (.cons (.set 2 .emptyDict)
  (.cons (.for (.t (.cons (.n 3) (.cons (.n 4) .nil))) (.val (.var 0)) (.cons (.for (.n 5) (.val (.call 24 (.cons (.b1 .len (.var 1)) (.cons (.b1 .len (.var 3)) .nil)))) (.cons (.set 6 (.comp0 (.ix (.var 1) (.var 8)) (.n 8) (.val (.var 5)) [8]))
  (.cons (.freeze 6)
  (.cons (.ifs (.cmp .eq (.call 18 (.cons (.var 6) .nil)) (.var 3)) (.cons (.par [9, 10] (.cons (.b1 .list (.var 1)) (.cons (.b1 .sortedSet (.var 6)) .nil)))
  (.cons (.for (.n 7) (.range1 (.b1 .len (.var 5))) (.cons (.setIx 9 (.ix (.var 5) (.var 7)) (.ix (.var 10) (.ix (.var 4) (.var 7))))
  .nil))
  (.cons (.setIx 2 (.b1 .tuple (.var 9)) (.lit (.bool true)))
  .nil))) .nil)
  .nil))))
  .nil))
  (.cons (.ret (.b1 .keys (.var 2)))
  .nil)))
def f_law_steps : Fn := ⟨2, 11, b_law_steps⟩
def N_law_steps : List Str := ["_law_book_here", "_law_here", "_law_found", "_law_before", "_law_after", "_law_line", "_law_some", "_law_k", "_law_at", "_law_there", "_law_ranks"]
/-- _law_walk (k00); id 26; slots 0:_law_book_here 1:_law_here 2:_law_found 3:_law_rows 4:_law_one -/
def b_law_walk : Sms := (.cons (.par [2, 3] (.cons .emptyDict (.cons (.lst (.cons (.var 1) .nil)) .nil)))
  (.cons (.while (.cmp .ne (.var 3) (.lst .nil)) (.cons (.set 4 (.ix (.var 3) (.lit (.int 0))))
  (.cons (.set 3 (.sliceFrom (.var 3) (.lit (.int 1))))
  (.cons (.ifs (.cmp .notin (.var 4) (.var 2)) (.cons (.setIx 2 (.var 4) (.call 25 (.cons (.var 0) (.cons (.var 4) .nil))))
  (.cons (.set 3 (.bin .add (.var 3) (.ix (.var 2) (.var 4))))
  .nil)) .nil)
  .nil))))
  (.cons (.freeze 2)
  (.cons (.ret (.var 2))
  .nil))))
def f_law_walk : Fn := ⟨2, 5, b_law_walk⟩
def N_law_walk : List Str := ["_law_book_here", "_law_here", "_law_found", "_law_rows", "_law_one"]
def f_law_layers : Fn := ⟨0, 0, .nil⟩ -- not carried: call dict
/-- _law_last_ones (k00); id 28; slots 0:_law_told 1:_law_here -/
def b_law_last_ones : Sms := (.cons (.ret (.b1 .sorted (.comp1 (.var 1) (.n 1) (.keys (.var 0)) (.cmp .eq (.ix (.var 0) (.var 1)) (.lst .nil)) [1])))
  .nil)
def f_law_last_ones : Fn := ⟨1, 2, b_law_last_ones⟩
def N_law_last_ones : List Str := ["_law_told", "_law_here"]
def f_law_k00 : Fn := ⟨0, 0, .nil⟩ -- not carried: Try
/-- mirrored (k01); id 30; slots 0:book 1:before 2:after -/
def b_mirrored : Sms := (.cons (.expr (.call 3 (.cons (.var 0) .nil)))
  (.cons (.ret (.b1 .tuple (.b1 .sorted (.comp0 (.tup (.cons (.rev (.var 1)) (.cons (.rev (.var 2)) .nil))) (.t (.cons (.n 1) (.cons (.n 2) .nil))) (.val (.var 0)) [1, 2]))))
  .nil))
def f_mirrored : Fn := ⟨1, 3, b_mirrored⟩
def N_mirrored : List Str := ["book", "before", "after"]
/-- turned (k01); id 31; slots 0:book 1:rules 2:before 3:after 4:top 5:one -/
def b_turned : Sms := (.cons (.expr (.call 3 (.cons (.var 0) .nil)))
  (.cons (.set 1 (.lst .nil))
  (.cons (.for (.t (.cons (.n 2) (.cons (.n 3) .nil))) (.val (.var 0)) (.cons (.set 4 (.b1 .max (.var 2)))
  (.cons (.append 1 (.tup (.cons (.b1 .tuple (.comp0 (.bin .sub (.var 4) (.var 5)) (.n 5) (.val (.var 2)) [5])) (.cons (.b1 .tuple (.comp0 (.bin .sub (.var 4) (.var 5)) (.n 5) (.val (.var 3)) [5])) .nil))))
  .nil)))
  (.cons (.ret (.b1 .tuple (.b1 .sorted (.var 1))))
  .nil))))
def f_turned : Fn := ⟨1, 6, b_turned⟩
def N_turned : List Str := ["book", "rules", "before", "after", "top", "one"]
/-- undone (k01); id 32; slots 0:book 1:before 2:after -/
def b_undone : Sms := (.cons (.expr (.call 3 (.cons (.var 0) .nil)))
  (.cons (.ret (.b1 .tuple (.b1 .sorted (.comp0 (.tup (.cons (.var 2) (.cons (.var 1) .nil))) (.t (.cons (.n 1) (.cons (.n 2) .nil))) (.val (.var 0)) [1, 2]))))
  .nil))
def f_undone : Fn := ⟨1, 3, b_undone⟩
def N_undone : List Str := ["book", "before", "after"]
/-- joined (k01); id 33; slots 0:book 1:other 2:rules -/
def b_joined : Sms := (.cons (.expr (.call 3 (.cons (.var 0) .nil)))
  (.cons (.expr (.call 3 (.cons (.var 1) .nil)))
  (.cons (.set 2 (.b1 .tuple (.b1 .sortedSet (.bin .add (.var 0) (.var 1)))))
  (.cons (.ifs (.cmp .gt (.b1 .len (.var 2)) (.glob "MOST_RULES" (.int 8))) (.cons .never
  .nil) .nil)
  (.cons (.ret (.var 2))
  .nil)))))
def f_joined : Fn := ⟨2, 3, b_joined⟩
def N_joined : List Str := ["book", "other", "rules"]
/-- write_book (k01); id 34; slots 0:book 1:rules 2:before 3:after 4:one -/
def b_write_book : Sms := (.cons (.expr (.call 3 (.cons (.var 0) .nil)))
  (.cons (.set 1 (.lst .nil))
  (.cons (.for (.t (.cons (.n 2) (.cons (.n 3) .nil))) (.val (.var 0)) (.cons (.append 1 (.bin .add (.bin .add (.b2 .join (.lit (.str "")) (.comp0 (.b1 .str (.var 4)) (.n 4) (.val (.var 2)) [4])) (.lit (.str ">"))) (.b2 .join (.lit (.str "")) (.comp0 (.b1 .str (.var 4)) (.n 4) (.val (.var 3)) [4]))))
  .nil))
  (.cons (.ret (.b2 .join (.lit (.str " ")) (.var 1)))
  .nil))))
def f_write_book : Fn := ⟨1, 5, b_write_book⟩
def N_write_book : List Str := ["book", "rules", "before", "after", "one"]
/-- skip (k01); id 35; slots 0:text 1:at -/
def b_skip : Sms := (.cons (.while (.cmp .eq (.slice (.var 0) (.var 1) (.bin .add (.var 1) (.lit (.int 1)))) (.lit (.str " "))) (.cons (.aug 1 .add (.lit (.int 1)))
  .nil))
  (.cons (.ret (.var 1))
  .nil))
def f_skip : Fn := ⟨2, 2, b_skip⟩
def N_skip : List Str := ["text", "at"]
/-- digits_at (k01); id 36; slots 0:text 1:at 2:most 3:found -/
def b_digits_at : Sms := (.cons (.set 3 (.tup .nil))
  (.cons (.while (.and (.cmp .lt (.b1 .len (.var 3)) (.var 2)) (.cmp .isin (.slice (.var 0) (.var 1) (.bin .add (.var 1) (.lit (.int 1)))) (.tup (.cons (.lit (.str "0")) (.cons (.lit (.str "1")) (.cons (.lit (.str "2")) (.cons (.lit (.str "3")) .nil))))))) (.cons (.par [3, 1] (.cons (.bin .add (.var 3) (.tup (.cons (.b1 .int (.ix (.var 0) (.var 1))) .nil))) (.cons (.bin .add (.var 1) (.lit (.int 1))) .nil)))
  .nil))
  (.cons (.ret (.tup (.cons (.var 3) (.cons (.var 1) .nil))))
  .nil)))
def f_digits_at : Fn := ⟨3, 4, b_digits_at⟩
def N_digits_at : List Str := ["text", "at", "most", "found"]
/-- rule_at (k01); id 37; slots 0:text 1:begin 2:before 3:at 4:after 5:behind -/
def b_rule_at : Sms := (.cons (.setT (.cons (.n 2) (.cons (.n 3) .nil)) (.call 36 (.cons (.var 0) (.cons (.var 1) (.cons (.glob "MOST_LONG" (.int 4)) .nil)))))
  (.cons (.ifs (.or (.cmp .ne (.slice (.var 0) (.var 3) (.bin .add (.var 3) (.lit (.int 1)))) (.lit (.str ">"))) (.cmp .lt (.b1 .len (.var 2)) (.lit (.int 2)))) (.cons .never
  .nil) .nil)
  (.cons (.setT (.cons (.n 4) (.cons (.n 5) .nil)) (.call 36 (.cons (.var 0) (.cons (.bin .add (.var 3) (.lit (.int 1))) (.cons (.b1 .len (.var 2)) .nil)))))
  (.cons (.ifs (.cmp .lt (.b1 .len (.var 4)) (.b1 .len (.var 2))) (.cons .never
  .nil) .nil)
  (.cons (.ifs (.not (.call 2 (.cons (.tup (.cons (.var 2) (.cons (.var 4) .nil))) .nil))) (.cons .never
  .nil) .nil)
  (.cons (.ret (.tup (.cons (.tup (.cons (.var 2) (.cons (.var 4) .nil))) (.cons (.var 5) .nil))))
  .nil))))))
def f_rule_at : Fn := ⟨2, 6, b_rule_at⟩
def N_rule_at : List Str := ["text", "begin", "before", "at", "after", "behind"]
/-- read_book (k01); id 38; slots 0:text 1:at 2:rules 3:rule 4:behind -/
def b_read_book : Sms := (.cons (.ifs (.not (.b1 .isStr (.var 0))) (.cons .never
  .nil) .nil)
  (.cons (.par [1, 2] (.cons (.call 35 (.cons (.var 0) (.cons (.lit (.int 0)) .nil))) (.cons (.lst .nil) .nil)))
  (.cons (.while (.cmp .lt (.var 1) (.b1 .len (.var 0))) (.cons (.setT (.cons (.n 3) (.cons (.n 4) .nil)) (.call 37 (.cons (.var 0) (.cons (.var 1) .nil))))
  (.cons (.ifs (.or (.cmp .eq (.b1 .len (.var 2)) (.glob "MOST_RULES" (.int 8))) (.and (.cmp .ne (.var 2) (.lst .nil)) (.cmp .le (.var 3) (.ix (.var 2) (.neg (.lit (.int 1))))))) (.cons .never
  .nil) .nil)
  (.cons (.append 2 (.var 3))
  (.cons (.ifs (.cmp .notin (.slice (.var 0) (.var 4) (.bin .add (.var 4) (.lit (.int 1)))) (.tup (.cons (.lit (.str "")) (.cons (.lit (.str " ")) .nil)))) (.cons .never
  .nil) .nil)
  (.cons (.set 1 (.call 35 (.cons (.var 0) (.cons (.var 4) .nil))))
  .nil))))))
  (.cons (.ret (.b1 .tuple (.var 2)))
  .nil))))
def f_read_book : Fn := ⟨1, 5, b_read_book⟩
def N_read_book : List Str := ["text", "at", "rules", "rule", "behind"]
/-- _law_pick (k01); id 39; slots 0:_law_row 1:_law_things -/
def b_law_pick : Sms := (.cons (.ret (.ix (.var 1) (.call 16 (.cons (.var 0) (.cons (.b1 .len (.var 1)) .nil)))))
  .nil)
def f_law_pick : Fn := ⟨2, 2, b_law_pick⟩
def N_law_pick : List Str := ["_law_row", "_law_things"]
/-- _law_skip (k01); id 40; slots 0:_law_text 1:_law_at 2:_law_turn -/
def b_law_skip : Sms := (.cons (.for (.n 2) (.range1 (.b1 .len (.var 0))) (.cons (.ifs (.and (.cmp .lt (.var 1) (.b1 .len (.var 0))) (.cmp .eq (.ix (.var 0) (.var 1)) (.lit (.str " ")))) (.cons (.set 1 (.bin .add (.var 1) (.lit (.int 1))))
  .nil) .nil)
  .nil))
  (.cons (.ret (.var 1))
  .nil))
def f_law_skip : Fn := ⟨2, 3, b_law_skip⟩
def N_law_skip : List Str := ["_law_text", "_law_at", "_law_turn"]
def f_law_text_due : Fn := ⟨0, 0, .nil⟩ -- not carried: target
def f_law_k01 : Fn := ⟨0, 0, .nil⟩ -- not carried: Try
/-- need_rule (k02); id 43; slots 0:rule -/
def b_need_rule : Sms := (.cons (.ifs (.not (.call 2 (.cons (.var 0) .nil))) (.cons .never
  .nil) .nil)
  .nil)
def f_need_rule : Fn := ⟨1, 1, b_need_rule⟩
def N_need_rule : List Str := ["rule"]
/-- sign_of (k02); id 44; slots 0:is_up -/
def b_sign_of : Sms := (.cons (.ret (.ite (.var 0) (.lit (.int 1)) (.neg (.lit (.int 1)))))
  .nil)
def f_sign_of : Fn := ⟨1, 1, b_sign_of⟩
def N_sign_of : List Str := ["is_up"]
/-- signs_in (k02); id 45; slots 0:rule 1:places 2:numbers 3:found 4:number 5:before 6:after 7:some 8:at -/
def b_signs_in : Sms := (.cons (.setT (.cons (.n 5) (.cons (.n 6) .nil)) (.var 0))
  (.cons (.set 1 (.comp1 (.var 8) (.n 8) (.range1 (.b1 .len (.var 5))) (.cmp .ne (.ix (.var 5) (.var 8)) (.ix (.var 6) (.var 8))) [8]))
  (.cons (.set 2 (.b1 .sorted (.comp0 (.ix (.var 5) (.var 8)) (.n 8) (.val (.var 1)) [8])))
  (.cons (.set 3 (.comp0 (.call 44 (.cons (.cmp .gt (.ix (.var 6) (.var 8)) (.ix (.var 5) (.var 8))) .nil)) (.n 8) (.val (.tup (.cons (.ix (.var 1) (.lit (.int 0))) (.cons (.ix (.var 1) (.neg (.lit (.int 1)))) .nil)))) [8]))
  (.cons (.for (.n 4) (.val (.tup (.cons (.ix (.var 2) (.lit (.int 0))) (.cons (.ix (.var 2) (.neg (.lit (.int 1)))) .nil)))) (.cons (.set 7 (.comp1 (.var 8) (.n 8) (.val (.var 1)) (.cmp .isin (.var 4) (.tup (.cons (.ix (.var 5) (.var 8)) (.cons (.ix (.var 6) (.var 8)) .nil)))) [8]))
  (.cons (.set 3 (.bin .add (.var 3) (.lst (.cons (.call 44 (.cons (.cmp .eq (.ix (.var 5) (.ix (.var 7) (.lit (.int 0)))) (.var 4)) .nil)) (.cons (.call 44 (.cons (.cmp .eq (.ix (.var 6) (.ix (.var 7) (.neg (.lit (.int 1))))) (.var 4)) .nil)) .nil)))))
  .nil)))
  (.cons (.ret (.b1 .tuple (.var 3)))
  .nil))))))
def f_signs_in : Fn := ⟨1, 9, b_signs_in⟩
def N_signs_in : List Str := ["rule", "places", "numbers", "found", "number", "before", "after", "some", "at"]
/-- signs (k02); id 46; slots 0:rule -/
def b_signs : Sms := (.cons (.expr (.call 43 (.cons (.var 0) .nil)))
  (.cons (.ret (.call 45 (.cons (.var 0) .nil)))
  .nil))
def f_signs : Fn := ⟨1, 1, b_signs⟩
def N_signs : List Str := ["rule"]
/-- ways_in (k02); id 47; slots 0:book 1:found 2:index 3:word 4:sign 5:rule -/
def b_ways_in : Sms := (.cons (.set 1 (.lst .nil))
  (.cons (.for (.t (.cons (.n 2) (.cons (.n 3) .nil))) (.enum (.glob "WORDS" (.tuple [(.str "first"), (.str "last"), (.str "least first"), (.str "least last"), (.str "greatest first"), (.str "greatest last")]))) (.cons (.for (.n 4) (.val (.tup (.cons (.neg (.lit (.int 1))) (.cons (.lit (.int 1)) .nil)))) (.cons (.ifs (.cmp .eq (.comp1 (.var 5) (.n 5) (.val (.var 0)) (.cmp .ne (.ix (.call 45 (.cons (.var 5) .nil)) (.var 2)) (.var 4)) [5]) (.lst .nil)) (.cons (.append 1 (.tup (.cons (.var 3) (.cons (.var 4) .nil))))
  .nil) .nil)
  .nil))
  .nil))
  (.cons (.ret (.b1 .tuple (.var 1)))
  .nil)))
def f_ways_in : Fn := ⟨1, 6, b_ways_in⟩
def N_ways_in : List Str := ["book", "found", "index", "word", "sign", "rule"]
/-- ways (k02); id 48; slots 0:book -/
def b_ways : Sms := (.cons (.expr (.call 3 (.cons (.var 0) .nil)))
  (.cons (.ret (.call 47 (.cons (.var 0) .nil)))
  .nil))
def f_ways : Fn := ⟨1, 1, b_ways⟩
def N_ways : List Str := ["book"]
/-- ends (k02); id 49; slots 0:book -/
def b_ends : Sms := (.cons (.expr (.call 3 (.cons (.var 0) .nil)))
  (.cons (.ret (.cmp .ne (.call 47 (.cons (.var 0) .nil)) (.tup .nil)))
  .nil))
def f_ends : Fn := ⟨1, 1, b_ends⟩
def N_ends : List Str := ["book"]
/-- corner_sums_in (k02); id 50; slots 0:rule 1:place 2:before 3:after 4:many 5:found 6:line 7:number 8:more 9:at -/
def b_corner_sums_in : Sms := (.cons (.setT (.cons (.n 2) (.cons (.n 3) .nil)) (.var 0))
  (.cons (.par [4, 5] (.cons (.b1 .len (.var 2)) (.cons (.lst .nil) .nil)))
  (.cons (.for (.n 1) (.range2 (.lit (.int 1)) (.var 4)) (.cons (.set 6 (.lst .nil))
  (.cons (.for (.n 7) (.range2 (.lit (.int 1)) (.bin .add (.b1 .max (.var 2)) (.lit (.int 1)))) (.cons (.set 8 (.b1 .len (.comp1 (.var 9) (.n 9) (.range2 (.var 1) (.var 4)) (.cmp .ge (.ix (.var 3) (.var 9)) (.var 7)) [9])))
  (.cons (.append 6 (.bin .sub (.var 8) (.b1 .len (.comp1 (.var 9) (.n 9) (.range2 (.var 1) (.var 4)) (.cmp .ge (.ix (.var 2) (.var 9)) (.var 7)) [9]))))
  .nil)))
  (.cons (.append 5 (.b1 .tuple (.var 6)))
  .nil))))
  (.cons (.ret (.b1 .tuple (.var 5)))
  .nil))))
def f_corner_sums_in : Fn := ⟨1, 10, b_corner_sums_in⟩
def N_corner_sums_in : List Str := ["rule", "place", "before", "after", "many", "found", "line", "number", "more", "at"]
/-- corner_sums (k02); id 51; slots 0:rule -/
def b_corner_sums : Sms := (.cons (.expr (.call 43 (.cons (.var 0) .nil)))
  (.cons (.ret (.call 50 (.cons (.var 0) .nil)))
  .nil))
def f_corner_sums : Fn := ⟨1, 1, b_corner_sums⟩
def N_corner_sums : List Str := ["rule"]
/-- growth (k02); id 52; slots 0:book 1:some 2:rule 3:line -/
def b_growth : Sms := (.cons (.expr (.call 3 (.cons (.var 0) .nil)))
  (.cons (.ifs (.cmp .eq (.var 0) (.tup .nil)) (.cons (.ret (.lit (.str "none")))
  .nil) .nil)
  (.cons (.ifs (.cmp .eq (.call 47 (.cons (.var 0) .nil)) (.tup .nil)) (.cons (.ret (.lit (.str "endless")))
  .nil) .nil)
  (.cons (.set 1 (.lst .nil))
  (.cons (.for (.n 2) (.val (.var 0)) (.cons (.for (.n 3) (.val (.call 50 (.cons (.var 2) .nil))) (.cons (.set 1 (.bin .add (.var 1) (.b1 .list (.var 3))))
  .nil))
  .nil))
  (.cons (.ret (.ite (.or (.cmp .ge (.b1 .min (.var 1)) (.lit (.int 0))) (.cmp .le (.b1 .max (.var 1)) (.lit (.int 0)))) (.lit (.str "square")) (.lit (.str "greater"))))
  .nil))))))
def f_growth : Fn := ⟨1, 4, b_growth⟩
def N_growth : List Str := ["book", "some", "rule", "line"]
/-- _law_words (k02); id 53; slots  -/
def b_law_words : Sms := (.cons (.ret (.lst (.cons (.lit (.str "first")) (.cons (.lit (.str "last")) (.cons (.lit (.str "least first")) (.cons (.lit (.str "least last")) (.cons (.lit (.str "greatest first")) (.cons (.lit (.str "greatest last")) .nil))))))))
  .nil)
def f_law_words : Fn := ⟨0, 0, b_law_words⟩
def N_law_words : List Str := []
/-- _law_ways (k02); id 54; slots 0:_law_book_here 1:_law_found 2:_law_k 3:_law_sign 4:_law_rule_here -/
def b_law_ways : Sms := (.cons (.set 1 (.lst .nil))
  (.cons (.for (.n 2) (.range1 (.lit (.int 6))) (.cons (.for (.n 3) (.val (.lst (.cons (.neg (.lit (.int 1))) (.cons (.lit (.int 1)) .nil)))) (.cons (.ifs (.cmp .eq (.comp1 (.var 4) (.n 4) (.val (.var 0)) (.cmp .ne (.ix (.call 21 (.cons (.var 4) .nil)) (.var 2)) (.var 3)) [4]) (.lst .nil)) (.cons (.append 1 (.tup (.cons (.ix (.call 53 .nil) (.var 2)) (.cons (.var 3) .nil))))
  .nil) .nil)
  .nil))
  .nil))
  (.cons (.ret (.b1 .tuple (.var 1)))
  .nil)))
def f_law_ways : Fn := ⟨1, 5, b_law_ways⟩
def N_law_ways : List Str := ["_law_book_here", "_law_found", "_law_k", "_law_sign", "_law_rule_here"]
/-- law (k02); id 55; slots 0:_law_script 1:_law_row 2:_law_due 3:_law_word 4:_law_book_here 5:_law_every 6:_law_before 7:_law_after 8:_law_p 9:_law_some 10:_law_rows 11:_law_columns 12:_law_many 13:_law_line 14:_law_q 15:_law_sign 16:_law_least 17:_law_great 18:_law_one 19:_law_k -/
def b_law_k02 : Sms := (.cons (.newCell 1 0 [0, 10602, 0])
  (.cons (.par [4, 5] (.cons (.call 22 (.cons (.var 1) (.cons (.lit (.int 4)) .nil))) (.cons (.lst .nil) .nil)))
  (.cons (.for (.t (.cons (.n 6) (.cons (.n 7) .nil))) (.val (.var 4)) (.cons (.par [12, 2] (.cons (.b1 .len (.var 6)) (.cons (.lst .nil) .nil)))
  (.cons (.for (.n 8) (.range2 (.lit (.int 1)) (.var 12)) (.cons (.set 13 (.lst .nil))
  (.cons (.for (.n 14) (.range2 (.lit (.int 1)) (.bin .add (.b1 .max (.var 6)) (.lit (.int 1)))) (.cons (.append 13 (.bin .sub (.b1 .len (.comp1 (.var 19) (.n 19) (.range2 (.var 8) (.var 12)) (.cmp .ge (.ix (.var 7) (.var 19)) (.var 14)) [19])) (.b1 .len (.comp1 (.var 19) (.n 19) (.range2 (.var 8) (.var 12)) (.cmp .ge (.ix (.var 6) (.var 19)) (.var 14)) [19]))))
  .nil))
  (.cons (.append 2 (.b1 .tuple (.var 13)))
  (.cons (.set 5 (.bin .add (.var 5) (.var 13)))
  .nil)))))
  (.cons (.set 9 (.call 21 (.cons (.tup (.cons (.var 6) (.cons (.var 7) .nil))) .nil)))
  (.cons (.ifs (.not (.call 23 (.cons (.call 46 (.cons (.tup (.cons (.var 6) (.cons (.var 7) .nil))) .nil)) (.cons (.var 9) .nil)))) (.cons (.ret (.lit (.bool false)))
  .nil) .nil)
  (.cons (.ifs (.not (.call 23 (.cons (.call 51 (.cons (.tup (.cons (.var 6) (.cons (.var 7) .nil))) .nil)) (.cons (.b1 .tuple (.var 2)) .nil)))) (.cons (.ret (.lit (.bool false)))
  .nil) .nil)
  (.cons (.freeze 13)
  (.cons (.set 10 (.comp1 (.var 13) (.n 13) (.val (.var 2)) (.or (.cmp .ne (.b1 .max (.var 13)) (.lit (.int 0))) (.cmp .ne (.b1 .min (.var 13)) (.lit (.int 0)))) [13]))
  (.cons (.set 11 (.comp0 (.comp1 (.ix (.var 13) (.var 14)) (.n 13) (.val (.var 2)) (.cmp .ne (.ix (.var 13) (.var 14)) (.lit (.int 0))) [13]) (.n 14) (.range1 (.b1 .max (.var 6))) [14]))
  (.cons (.freeze 13)
  (.cons (.set 11 (.comp1 (.var 13) (.n 13) (.val (.var 11)) (.cmp .ne (.var 13) (.lst .nil)) [13]))
  (.cons (.for (.t (.cons (.n 13) (.cons (.n 15) .nil))) (.val (.lst (.cons (.tup (.cons (.ix (.var 10) (.lit (.int 0))) (.cons (.bin .sub (.lit (.int 0)) (.ix (.var 9) (.lit (.int 0)))) .nil))) (.cons (.tup (.cons (.ix (.var 10) (.neg (.lit (.int 1)))) (.cons (.ix (.var 9) (.lit (.int 1))) .nil))) .nil)))) (.cons (.ifs (.cmp .ne (.comp1 (.var 18) (.n 18) (.val (.var 13)) (.cmp .notin (.var 18) (.lst (.cons (.lit (.int 0)) (.cons (.var 15) .nil)))) [18]) (.lst .nil)) (.cons (.ret (.lit (.bool false)))
  .nil) .nil)
  .nil))
  (.cons (.par [16, 17] (.cons (.ix (.var 11) (.lit (.int 0))) (.cons (.ix (.var 11) (.neg (.lit (.int 1)))) .nil)))
  (.cons (.ifs (.cmp .ne (.lst (.cons (.bin .sub (.lit (.int 0)) (.ix (.var 16) (.lit (.int 0)))) (.cons (.bin .sub (.lit (.int 0)) (.ix (.var 16) (.neg (.lit (.int 1))))) (.cons (.ix (.var 17) (.lit (.int 0))) (.cons (.ix (.var 17) (.neg (.lit (.int 1)))) .nil))))) (.comp0 (.b1 .int (.var 18)) (.n 18) (.val (.sliceFrom (.var 9) (.lit (.int 2)))) [18])) (.cons (.ret (.lit (.bool false)))
  .nil) .nil)
  .nil))))))))))))))
  (.cons (.set 2 (.call 54 (.cons (.var 4) .nil)))
  (.cons (.set 3 (.ite (.cmp .eq (.var 2) (.tup .nil)) (.lit (.str "endless")) (.ite (.or (.cmp .ge (.b1 .min (.var 5)) (.lit (.int 0))) (.cmp .le (.b1 .max (.var 5)) (.lit (.int 0)))) (.lit (.str "square")) (.lit (.str "greater")))))
  (.cons (.freeze 2)
  (.cons (.ret (.call 23 (.cons (.lst (.cons (.call 48 (.cons (.var 4) .nil)) (.cons (.call 49 (.cons (.var 4) .nil)) (.cons (.call 52 (.cons (.var 4) .nil)) .nil)))) (.cons (.lst (.cons (.var 2) (.cons (.cmp .ne (.var 2) (.tup .nil)) (.cons (.var 3) .nil)))) .nil))))
  .nil)))))))
def f_law_k02 : Fn := ⟨1, 20, b_law_k02⟩
def N_law_k02 : List Str := ["_law_script", "_law_row", "_law_due", "_law_word", "_law_book_here", "_law_every", "_law_before", "_law_after", "_law_p", "_law_some", "_law_rows", "_law_columns", "_law_many", "_law_line", "_law_q", "_law_sign", "_law_least", "_law_great", "_law_one", "_law_k"]
/-- _law_weight (k03); id 56; slots 0:_law_way 1:_law_here 2:_law_k 3:_law_word 4:_law_sign 5:_law_many 6:_law_found 7:_law_lot -/
def b_law_weight : Sms := (.cons (.setT (.cons (.n 3) (.cons (.n 4) .nil)) (.var 0))
  (.cons (.par [5, 6] (.cons (.b1 .len (.var 1)) (.cons (.lit (.int 0)) .nil)))
  (.cons (.for (.n 2) (.range1 (.var 5)) (.cons (.ifs (.cmp .isin (.var 3) (.lst (.cons (.lit (.str "first")) (.cons (.lit (.str "last")) .nil)))) (.cons (.set 6 (.bin .add (.var 6) (.bin .mul (.bin .shl (.lit (.int 1)) (.bin .mul (.lit (.int 4)) (.ite (.cmp .eq (.var 3) (.lit (.str "last"))) (.var 2) (.bin .sub (.var 5) (.var 2))))) (.ix (.var 1) (.var 2)))))
  .nil) (.cons (.set 7 (.ite (.cmp .isin (.var 3) (.lst (.cons (.lit (.str "least last")) (.cons (.lit (.str "greatest last")) .nil)))) (.bin .shl (.lit (.int 1)) (.var 2)) (.bin .sub (.lit (.int 0)) (.bin .shl (.lit (.int 1)) (.bin .sub (.var 5) (.var 2))))))
  (.cons (.set 6 (.bin .add (.var 6) (.bin .mul (.var 7) (.bin .shl (.lit (.int 1)) (.bin .mul (.bin .add (.var 5) (.lit (.int 3))) (.ite (.cmp .isin (.var 3) (.lst (.cons (.lit (.str "greatest first")) (.cons (.lit (.str "greatest last")) .nil)))) (.ix (.var 1) (.var 2)) (.bin .sub (.var 5) (.ix (.var 1) (.var 2)))))))))
  .nil)))
  .nil))
  (.cons (.ret (.bin .mul (.var 4) (.var 6)))
  .nil))))
def f_law_weight : Fn := ⟨2, 8, b_law_weight⟩
def N_law_weight : List Str := ["_law_way", "_law_here", "_law_k", "_law_word", "_law_sign", "_law_many", "_law_found", "_law_lot"]
/-- law (k03); id 57; slots 0:_law_script 1:_law_row 2:_law_book_here 3:_law_told 4:_law_turn 5:_law_here 6:_law_there 7:_law_way -/
def b_law_k03 : Sms := (.cons (.newCell 1 0 [0, 10603, 0])
  (.cons (.set 2 (.call 22 (.cons (.var 1) (.cons (.lit (.int 4)) .nil))))
  (.cons (.set 3 (.call 48 (.cons (.var 2) .nil)))
  (.cons (.for (.n 4) (.range1 (.lit (.int 3))) (.cons (.set 5 (.call 19 (.cons (.var 1) (.cons (.call 16 (.cons (.var 1) (.cons (.lit (.int 7)) .nil))) .nil))))
  (.cons (.for (.n 6) (.val (.call 9 (.cons (.var 2) (.cons (.var 5) .nil)))) (.cons (.for (.n 7) (.val (.var 3)) (.cons (.ifs (.cmp .le (.call 56 (.cons (.var 7) (.cons (.var 6) .nil))) (.call 56 (.cons (.var 7) (.cons (.var 5) .nil)))) (.cons (.ret (.lit (.bool false)))
  .nil) .nil)
  .nil))
  .nil))
  .nil)))
  (.cons (.set 5 (.call 19 (.cons (.var 1) (.cons (.call 16 (.cons (.var 1) (.cons (.lit (.int 6)) .nil))) .nil))))
  (.cons (.ret (.or (.cmp .eq (.var 3) (.tup .nil)) (.and (.cmp .isb (.call 49 (.cons (.var 2) .nil)) (.lit (.bool true))) (.cmp .isb (.call 14 (.cons (.var 2) (.cons (.var 5) .nil))) (.lit (.bool false))))))
  .nil))))))
def f_law_k03 : Fn := ⟨1, 8, b_law_k03⟩
def N_law_k03 : List Str := ["_law_script", "_law_row", "_law_book_here", "_law_told", "_law_turn", "_law_here", "_law_there", "_law_way"]
/-- all_rows (k04); id 58; slots 0:many 1:found 2:turn 3:more 4:one 5:at -/
def b_all_rows : Sms := (.cons (.set 1 (.lst (.cons (.tup .nil) .nil)))
  (.cons (.for (.n 2) (.range1 (.var 0)) (.cons (.set 3 (.lst .nil))
  (.cons (.freeze 1)
  (.cons (.for (.n 4) (.val (.var 1)) (.cons (.set 3 (.bin .add (.var 3) (.comp0 (.bin .add (.var 4) (.tup (.cons (.var 5) .nil))) (.n 5) (.range1 (.var 0)) [5])))
  .nil))
  (.cons (.freeze 3)
  (.cons (.set 1 (.var 3))
  .nil))))))
  (.cons (.ret (.comp1 (.var 4) (.n 4) (.val (.var 1)) (.cmp .eq (.b1 .sortedSet (.var 4)) (.b1 .listRange (.b1 .lenSet (.var 4)))) [4]))
  .nil)))
def f_all_rows : Fn := ⟨1, 6, b_all_rows⟩
def N_all_rows : List Str := ["many", "found", "turn", "more", "one", "at"]
/-- round_row (k04); id 59; slots 0:book 1:many 2:row -/
def b_round_row : Sms := (.cons (.expr (.call 3 (.cons (.var 0) .nil)))
  (.cons (.ifs (.not (.call 0 (.cons (.var 1) (.cons (.lit (.int 0)) (.cons (.glob "MOST_ROUND" (.int 4)) .nil))))) (.cons .never
  .nil) .nil)
  (.cons (.for (.n 2) (.val (.call 58 (.cons (.var 1) .nil))) (.cons (.ifs (.isNone (.call 13 (.cons (.call 10 (.cons (.var 0) (.cons (.var 2) .nil))) .nil))) (.cons (.ret (.var 2))
  .nil) .nil)
  .nil))
  (.cons (.ret (.lit .none))
  .nil))))
def f_round_row : Fn := ⟨2, 3, b_round_row⟩
def N_round_row : List Str := ["book", "many", "row"]
/-- _law_rows (k04); id 60; slots 0:_law_many 1:_law_found 2:_law_k 3:_law_more 4:_law_one 5:_law_number -/
def b_law_rows : Sms := (.cons (.set 1 (.lst (.cons (.tup .nil) .nil)))
  (.cons (.for (.n 2) (.range1 (.var 0)) (.cons (.set 3 (.lst .nil))
  (.cons (.freeze 1)
  (.cons (.for (.n 4) (.val (.var 1)) (.cons (.set 3 (.bin .add (.var 3) (.comp0 (.bin .add (.var 4) (.tup (.cons (.var 5) .nil))) (.n 5) (.range1 (.var 0)) [5])))
  .nil))
  (.cons (.freeze 3)
  (.cons (.set 1 (.var 3))
  .nil))))))
  (.cons (.ret (.comp1 (.var 4) (.n 4) (.val (.var 1)) (.cmp .eq (.call 18 (.cons (.var 4) .nil)) (.var 4)) [4]))
  .nil)))
def f_law_rows : Fn := ⟨1, 6, b_law_rows⟩
def N_law_rows : List Str := ["_law_many", "_law_found", "_law_k", "_law_more", "_law_one", "_law_number"]
def f_law_round : Fn := ⟨0, 0, .nil⟩ -- not carried: target
/-- law (k04); id 62; slots 0:_law_script 1:_law_row 2:_law_many 3:_law_due 4:_law_book_here 5:_law_found -/
def b_law_k04 : Sms := (.cons (.newCell 1 0 [0, 10604, 0])
  (.cons (.par [4, 3] (.cons (.call 22 (.cons (.var 1) (.cons (.lit (.int 3)) .nil))) (.cons (.lit .none) .nil)))
  (.cons (.for (.n 2) (.range1 (.lit (.int 5))) (.cons (.set 5 (.call 61 (.cons (.var 4) (.cons (.var 2) .nil))))
  (.cons (.set 3 (.ite (.notNone (.var 3)) (.var 3) (.var 5)))
  (.cons (.ifs (.not (.call 23 (.cons (.call 59 (.cons (.var 4) (.cons (.var 2) .nil))) (.cons (.var 5) .nil)))) (.cons (.ret (.lit (.bool false)))
  .nil) .nil)
  .nil))))
  (.cons (.ifs (.call 49 (.cons (.var 4) .nil)) (.cons (.ret (.and (.isNone (.var 3)) (.or (.cmp .gt (.call 16 (.cons (.var 1) (.cons (.lit (.int 8)) .nil))) (.lit (.int 0))) (.isNone (.call 61 (.cons (.var 4) (.cons (.lit (.int 5)) .nil)))))))
  .nil) .nil)
  (.cons (.set 3 (.ite (.notNone (.var 3)) (.var 3) (.call 61 (.cons (.var 4) (.cons (.lit (.int 5)) .nil)))))
  (.cons (.ret (.and (.notNone (.var 3)) (.cmp .isb (.call 14 (.cons (.var 4) (.cons (.var 3) .nil))) (.lit (.bool true)))))
  .nil))))))
def f_law_k04 : Fn := ⟨1, 6, b_law_k04⟩
def N_law_k04 : List Str := ["_law_script", "_law_row", "_law_many", "_law_due", "_law_book_here", "_law_found"]
/-- gcd (k05); id 63; slots 0:one 1:other -/
def b_gcd : Sms := (.cons (.par [0, 1] (.cons (.b1 .abs (.var 0)) (.cons (.b1 .abs (.var 1)) .nil)))
  (.cons (.while (.cmp .ne (.var 1) (.lit (.int 0))) (.cons (.par [0, 1] (.cons (.var 1) (.cons (.bin .mod (.var 0) (.var 1)) .nil)))
  .nil))
  (.cons (.ret (.var 0))
  .nil)))
def f_gcd : Fn := ⟨2, 2, b_gcd⟩
def N_gcd : List Str := ["one", "other"]
/-- reduced (k05); id 64; slots 0:numerator 1:denominator 2:common -/
def b_reduced : Sms := (.cons (.set 2 (.call 63 (.cons (.var 0) (.cons (.var 1) .nil))))
  (.cons (.ifs (.cmp .lt (.var 1) (.lit (.int 0))) (.cons (.set 2 (.neg (.var 2)))
  .nil) .nil)
  (.cons (.ret (.tup (.cons (.bin .fdiv (.var 0) (.var 2)) (.cons (.bin .fdiv (.var 1) (.var 2)) .nil))))
  .nil)))
def f_reduced : Fn := ⟨2, 3, b_reduced⟩
def N_reduced : List Str := ["numerator", "denominator", "common"]
/-- minus (k05); id 65; slots 0:one 1:other -/
def b_minus : Sms := (.cons (.ret (.call 64 (.cons (.bin .sub (.bin .mul (.ix (.var 0) (.lit (.int 0))) (.ix (.var 1) (.lit (.int 1)))) (.bin .mul (.ix (.var 1) (.lit (.int 0))) (.ix (.var 0) (.lit (.int 1))))) (.cons (.bin .mul (.ix (.var 0) (.lit (.int 1))) (.ix (.var 1) (.lit (.int 1)))) .nil))))
  .nil)
def f_minus : Fn := ⟨2, 2, b_minus⟩
def N_minus : List Str := ["one", "other"]
/-- times (k05); id 66; slots 0:one 1:other -/
def b_times : Sms := (.cons (.ret (.call 64 (.cons (.bin .mul (.ix (.var 0) (.lit (.int 0))) (.ix (.var 1) (.lit (.int 0)))) (.cons (.bin .mul (.ix (.var 0) (.lit (.int 1))) (.ix (.var 1) (.lit (.int 1)))) .nil))))
  .nil)
def f_times : Fn := ⟨2, 2, b_times⟩
def N_times : List Str := ["one", "other"]
/-- over (k05); id 67; slots 0:one 1:other -/
def b_over : Sms := (.cons (.ret (.call 64 (.cons (.bin .mul (.ix (.var 0) (.lit (.int 0))) (.ix (.var 1) (.lit (.int 1)))) (.cons (.bin .mul (.ix (.var 0) (.lit (.int 1))) (.ix (.var 1) (.lit (.int 0)))) .nil))))
  .nil)
def f_over : Fn := ⟨2, 2, b_over⟩
def N_over : List Str := ["one", "other"]
/-- less (k05); id 68; slots 0:one 1:other -/
def b_less : Sms := (.cons (.ret (.cmp .lt (.bin .mul (.ix (.var 0) (.lit (.int 0))) (.ix (.var 1) (.lit (.int 1)))) (.bin .mul (.ix (.var 1) (.lit (.int 0))) (.ix (.var 0) (.lit (.int 1))))))
  .nil)
def f_less : Fn := ⟨2, 2, b_less⟩
def N_less : List Str := ["one", "other"]
/-- whole (k05); id 69; slots 0:ratios 1:one 2:found 3:below 4:common -/
def b_whole : Sms := (.cons (.par [3, 4] (.cons (.lit (.int 1)) (.cons (.lit (.int 0)) .nil)))
  (.cons (.for (.n 1) (.val (.var 0)) (.cons (.set 3 (.bin .fdiv (.bin .mul (.var 3) (.ix (.var 1) (.lit (.int 1)))) (.call 63 (.cons (.var 3) (.cons (.ix (.var 1) (.lit (.int 1))) .nil)))))
  .nil))
  (.cons (.set 2 (.comp0 (.bin .fdiv (.bin .mul (.ix (.var 1) (.lit (.int 0))) (.var 3)) (.ix (.var 1) (.lit (.int 1)))) (.n 1) (.val (.var 0)) [1]))
  (.cons (.freeze 2)
  (.cons (.for (.n 1) (.val (.var 2)) (.cons (.set 4 (.call 63 (.cons (.var 4) (.cons (.var 1) .nil))))
  .nil))
  (.cons (.freeze 2)
  (.cons (.ret (.ite (.cmp .gt (.var 4) (.lit (.int 0))) (.comp0 (.bin .fdiv (.var 1) (.var 4)) (.n 1) (.val (.var 2)) [1]) (.var 2)))
  .nil)))))))
def f_whole : Fn := ⟨1, 5, b_whole⟩
def N_whole : List Str := ["ratios", "one", "found", "below", "common"]
/-- first_tableau (k05); id 70; slots 0:columns 1:goal 2:at 3:costs 4:row 5:height 6:rows 7:turn 8:signs 9:k 10:cost 11:one -/
def b_first_tableau : Sms := (.cons (.par [5, 6] (.cons (.b1 .len (.var 1)) (.cons (.lst .nil) .nil)))
  (.cons (.for (.n 2) (.range1 (.var 5)) (.cons (.set 7 (.ite (.cmp .lt (.ix (.var 1) (.var 2)) (.lit (.int 0))) (.neg (.lit (.int 1))) (.lit (.int 1))))
  (.cons (.set 8 (.comp0 (.tup (.cons (.b1 .int (.cmp .eq (.var 9) (.var 2))) (.cons (.lit (.int 1)) .nil))) (.n 9) (.range1 (.var 5)) [9]))
  (.cons (.append 6 (.bin .add (.bin .add (.comp0 (.tup (.cons (.bin .mul (.var 7) (.ix (.var 11) (.var 2))) (.cons (.lit (.int 1)) .nil))) (.n 11) (.val (.var 0)) [11]) (.var 8)) (.lst (.cons (.tup (.cons (.bin .mul (.var 7) (.ix (.var 1) (.var 2))) (.cons (.lit (.int 1)) .nil))) .nil))))
  .nil))))
  (.cons (.set 3 (.bin .mul (.lst (.cons (.tup (.cons (.lit (.int 0)) (.cons (.lit (.int 1)) .nil))) .nil)) (.bin .add (.bin .add (.b1 .len (.var 0)) (.var 5)) (.lit (.int 1)))))
  (.cons (.freeze 6)
  (.cons (.for (.n 4) (.val (.var 6)) (.cons (.set 3 (.comp0 (.call 65 (.cons (.var 10) (.cons (.ix (.var 4) (.var 2)) .nil))) (.t (.cons (.n 2) (.cons (.n 10) .nil))) (.enum (.var 3)) [2, 10]))
  .nil))
  (.cons (.for (.n 2) (.range1 (.var 5)) (.cons (.setIx 3 (.bin .add (.b1 .len (.var 0)) (.var 2)) (.tup (.cons (.lit (.int 0)) (.cons (.lit (.int 1)) .nil))))
  .nil))
  (.cons (.freeze 6)
  (.cons (.freeze 3)
  (.cons (.ret (.tup (.cons (.var 6) (.cons (.var 3) (.cons (.comp0 (.bin .add (.b1 .len (.var 0)) (.var 2)) (.n 2) (.range1 (.var 5)) [2]) .nil)))))
  .nil)))))))))
def f_first_tableau : Fn := ⟨2, 12, b_first_tableau⟩
def N_first_tableau : List Str := ["columns", "goal", "at", "costs", "row", "height", "rows", "turn", "signs", "k", "cost", "one"]
/-- taken_off (k05); id 71; slots 0:row 1:other 2:factor 3:at 4:one -/
def b_taken_off : Sms := (.cons (.ret (.comp0 (.call 65 (.cons (.var 4) (.cons (.call 66 (.cons (.var 2) (.cons (.ix (.var 1) (.var 3)) .nil))) .nil))) (.t (.cons (.n 3) (.cons (.n 4) .nil))) (.enum (.var 0)) [3, 4]))
  .nil)
def f_taken_off : Fn := ⟨3, 5, b_taken_off⟩
def N_taken_off : List Str := ["row", "other", "factor", "at", "one"]
/-- turned (k05); id 72; slots 0:rows 1:costs 2:basis 3:row 4:column 5:pivot 6:line 7:one 8:at -/
def b_turned_2 : Sms := (.cons (.set 5 (.ix (.ix (.var 0) (.var 3)) (.var 4)))
  (.cons (.set 6 (.comp0 (.call 67 (.cons (.var 7) (.cons (.var 5) .nil))) (.n 7) (.val (.ix (.var 0) (.var 3))) [7]))
  (.cons (.freeze 6)
  (.cons (.set 0 (.comp0 (.ite (.cmp .eq (.var 8) (.var 3)) (.var 6) (.call 71 (.cons (.var 7) (.cons (.var 6) (.cons (.ix (.var 7) (.var 4)) .nil))))) (.t (.cons (.n 8) (.cons (.n 7) .nil))) (.enum (.var 0)) [8, 7]))
  (.cons (.freeze 0)
  (.cons (.freeze 6)
  (.cons (.ret (.tup (.cons (.var 0) (.cons (.call 71 (.cons (.var 1) (.cons (.var 6) (.cons (.ix (.var 1) (.var 4)) .nil)))) (.cons (.bin .add (.bin .add (.sliceTo (.var 2) (.var 3)) (.lst (.cons (.var 4) .nil))) (.sliceFrom (.var 2) (.bin .add (.var 3) (.lit (.int 1))))) .nil)))))
  .nil)))))))
def f_turned_2 : Fn := ⟨5, 9, b_turned_2⟩
def N_turned_2 : List Str := ["rows", "costs", "basis", "row", "column", "pivot", "line", "one", "at"]
/-- leaving (k05); id 73; slots 0:rows 1:basis 2:column 3:best 4:at 5:row 6:share -/
def b_leaving : Sms := (.cons (.set 3 (.lit .none))
  (.cons (.for (.t (.cons (.n 4) (.cons (.n 5) .nil))) (.enum (.var 0)) (.cons (.ifs (.call 68 (.cons (.tup (.cons (.lit (.int 0)) (.cons (.lit (.int 1)) .nil))) (.cons (.ix (.var 5) (.var 2)) .nil))) (.cons (.set 6 (.call 67 (.cons (.ix (.var 5) (.neg (.lit (.int 1)))) (.cons (.ix (.var 5) (.var 2)) .nil))))
  (.cons (.ifs (.or (.isNone (.var 3)) (.or (.call 68 (.cons (.var 6) (.cons (.ix (.var 3) (.lit (.int 0))) .nil))) (.and (.cmp .eq (.var 6) (.ix (.var 3) (.lit (.int 0)))) (.cmp .lt (.ix (.var 1) (.var 4)) (.ix (.var 3) (.lit (.int 1))))))) (.cons (.set 3 (.tup (.cons (.var 6) (.cons (.ix (.var 1) (.var 4)) (.cons (.var 4) .nil)))))
  .nil) .nil)
  .nil)) .nil)
  .nil))
  (.cons (.ret (.ix (.var 3) (.lit (.int 2))))
  .nil)))
def f_leaving : Fn := ⟨3, 7, b_leaving⟩
def N_leaving : List Str := ["rows", "basis", "column", "best", "at", "row", "share"]
/-- solve (k05); id 74; slots 0:columns 1:goal 2:told 3:rows 4:costs 5:basis 6:some 7:found 8:at 9:one 10:column -/
def b_solve : Sms := (.cons (.setT (.cons (.n 3) (.cons (.n 4) (.cons (.n 5) .nil))) (.call 70 (.cons (.var 0) (.cons (.var 1) .nil))))
  (.cons (.while (.lit (.bool true)) (.cons (.set 6 (.comp1 (.var 8) (.n 8) (.range1 (.b1 .len (.var 0))) (.call 68 (.cons (.ix (.var 4) (.var 8)) (.cons (.tup (.cons (.lit (.int 0)) (.cons (.lit (.int 1)) .nil))) .nil))) [8]))
  (.cons (.ifs (.cmp .eq (.var 6) (.lst .nil)) (.cons .brk
  .nil) .nil)
  (.cons (.setT (.cons (.n 3) (.cons (.n 4) (.cons (.n 5) .nil))) (.call 72 (.cons (.var 3) (.cons (.var 4) (.cons (.var 5) (.cons (.call 73 (.cons (.var 3) (.cons (.var 5) (.cons (.ix (.var 6) (.lit (.int 0))) .nil)))) (.cons (.ix (.var 6) (.lit (.int 0))) .nil)))))))
  .nil))))
  (.cons (.ifs (.cmp .eq (.ix (.ix (.var 4) (.neg (.lit (.int 1)))) (.lit (.int 0))) (.lit (.int 0))) (.cons (.set 7 (.bin .mul (.lst (.cons (.tup (.cons (.lit (.int 0)) (.cons (.lit (.int 1)) .nil))) .nil)) (.b1 .len (.var 0))))
  (.cons (.for (.t (.cons (.n 8) (.cons (.n 10) .nil))) (.enum (.var 5)) (.cons (.ifs (.cmp .lt (.var 10) (.b1 .len (.var 0))) (.cons (.setIx 7 (.var 10) (.ix (.ix (.var 3) (.var 8)) (.neg (.lit (.int 1)))))
  .nil) .nil)
  .nil))
  (.cons (.freeze 7)
  (.cons (.ret (.tup (.cons (.var 7) (.cons (.lit .none) .nil))))
  .nil)))) .nil)
  (.cons (.set 2 (.lst .nil))
  (.cons (.for (.t (.cons (.n 8) (.cons (.n 9) .nil))) (.enum (.var 1)) (.cons (.append 2 (.call 66 (.cons (.tup (.cons (.ite (.cmp .lt (.var 9) (.lit (.int 0))) (.neg (.lit (.int 1))) (.lit (.int 1))) (.cons (.lit (.int 1)) .nil))) (.cons (.call 65 (.cons (.tup (.cons (.lit (.int 1)) (.cons (.lit (.int 1)) .nil))) (.cons (.ix (.var 4) (.bin .add (.b1 .len (.var 0)) (.var 8))) .nil))) .nil))))
  .nil))
  (.cons (.freeze 2)
  (.cons (.ret (.tup (.cons (.lit .none) (.cons (.var 2) .nil))))
  .nil)))))))
def f_solve : Fn := ⟨2, 11, b_solve⟩
def N_solve : List Str := ["columns", "goal", "told", "rows", "costs", "basis", "some", "found", "at", "one", "column"]
/-- deeds_on (k05); id 75; slots 0:book 1:size 2:found 3:index 4:some 5:places 6:before 7:after 8:numbers -/
def b_deeds_on : Sms := (.cons (.set 2 (.lst .nil))
  (.cons (.for (.t (.cons (.n 3) (.cons (.t (.cons (.n 6) (.cons (.n 7) .nil))) .nil))) (.enum (.var 0)) (.cons (.set 4 (.call 5 (.cons (.var 1) (.cons (.b1 .len (.var 6)) .nil))))
  (.cons (.for (.n 5) (.val (.var 4)) (.cons (.set 2 (.bin .add (.var 2) (.comp0 (.tup (.cons (.var 3) (.cons (.var 5) (.cons (.var 8) .nil)))) (.n 8) (.val (.call 5 (.cons (.var 1) (.cons (.bin .add (.b1 .max (.var 6)) (.lit (.int 1))) .nil)))) [8])))
  .nil))
  .nil)))
  (.cons (.freeze 2)
  (.cons (.ret (.var 2))
  .nil))))
def f_deeds_on : Fn := ⟨2, 9, b_deeds_on⟩
def N_deeds_on : List Str := ["book", "size", "found", "index", "some", "places", "before", "after", "numbers"]
/-- change_of (k05); id 76; slots 0:book 1:size 2:deed 3:found 4:index 5:places 6:numbers 7:before 8:after 9:at 10:place -/
def b_change_of : Sms := (.cons (.setT (.cons (.n 4) (.cons (.n 5) (.cons (.n 6) .nil))) (.var 2))
  (.cons (.setT (.cons (.n 7) (.cons (.n 8) .nil)) (.ix (.var 0) (.var 4)))
  (.cons (.set 3 (.bin .mul (.lst (.cons (.lit (.int 0)) .nil)) (.bin .mul (.var 1) (.var 1))))
  (.cons (.for (.t (.cons (.n 9) (.cons (.n 10) .nil))) (.enum (.var 5)) (.cons (.augIx 3 (.bin .add (.bin .mul (.var 10) (.var 1)) (.ix (.var 6) (.ix (.var 7) (.var 9)))) .sub (.lit (.int 1)))
  (.cons (.augIx 3 (.bin .add (.bin .mul (.var 10) (.var 1)) (.ix (.var 6) (.ix (.var 8) (.var 9)))) .add (.lit (.int 1)))
  .nil)))
  (.cons (.freeze 3)
  (.cons (.ret (.var 3))
  .nil))))))
def f_change_of : Fn := ⟨3, 11, b_change_of⟩
def N_change_of : List Str := ["book", "size", "deed", "found", "index", "places", "numbers", "before", "after", "at", "place"]
/-- lot_in (k05); id 77; slots 0:book 1:size 2:deeds 3:columns 4:multiples 5:told 6:deed 7:many -/
def b_lot_in : Sms := (.cons (.for (.n 1) (.range2 (.lit (.int 2)) (.bin .add (.glob "MOST_GRID" (.int 4)) (.lit (.int 1)))) (.cons (.set 2 (.call 75 (.cons (.var 0) (.cons (.var 1) .nil))))
  (.cons (.set 3 (.comp0 (.bin .add (.call 76 (.cons (.var 0) (.cons (.var 1) (.cons (.var 6) .nil)))) (.lst (.cons (.lit (.int 1)) .nil))) (.n 6) (.val (.var 2)) [6]))
  (.cons (.freeze 3)
  (.cons (.set 4 (.ix (.call 74 (.cons (.var 3) (.cons (.bin .add (.bin .mul (.lst (.cons (.lit (.int 0)) .nil)) (.bin .mul (.var 1) (.var 1))) (.lst (.cons (.lit (.int 1)) .nil))) .nil))) (.lit (.int 0))))
  (.cons (.ifs (.notNone (.var 4)) (.cons (.set 5 (.call 69 (.cons (.var 4) .nil)))
  (.cons (.ret (.tup (.cons (.var 1) (.cons (.b1 .tuple (.comp1 (.bin .add (.var 6) (.tup (.cons (.var 7) .nil))) (.t (.cons (.n 6) (.cons (.n 7) .nil))) (.zip (.var 2) (.var 5)) (.cmp .gt (.var 7) (.lit (.int 0))) [6, 7])) .nil))))
  .nil)) .nil)
  .nil))))))
  (.cons (.ret (.lit .none))
  .nil))
def f_lot_in : Fn := ⟨1, 8, b_lot_in⟩
def N_lot_in : List Str := ["book", "size", "deeds", "columns", "multiples", "told", "deed", "many"]
/-- lot (k05); id 78; slots 0:book -/
def b_lot : Sms := (.cons (.expr (.call 3 (.cons (.var 0) .nil)))
  (.cons (.ret (.ite (.cmp .ne (.call 47 (.cons (.var 0) .nil)) (.tup .nil)) (.lit .none) (.call 77 (.cons (.var 0) .nil))))
  .nil))
def f_lot : Fn := ⟨1, 1, b_lot⟩
def N_lot : List Str := ["book"]
/-- is_deed (k05); id 79; slots 0:book 1:size 2:value 3:before 4:line 5:long 6:one -/
def b_is_deed : Sms := (.cons (.ifs (.or (.not (.b1 .isTuple (.var 2))) (.or (.cmp .ne (.b1 .len (.var 2)) (.lit (.int 4))) (.not (.call 0 (.cons (.ix (.var 2) (.lit (.int 0))) (.cons (.lit (.int 0)) (.cons (.bin .sub (.b1 .len (.var 0)) (.lit (.int 1))) .nil))))))) (.cons (.ret (.lit (.bool false)))
  .nil) .nil)
  (.cons (.set 3 (.ix (.ix (.var 0) (.ix (.var 2) (.lit (.int 0)))) (.lit (.int 0))))
  (.cons (.for (.t (.cons (.n 4) (.cons (.n 5) .nil))) (.val (.tup (.cons (.tup (.cons (.ix (.var 2) (.lit (.int 1))) (.cons (.b1 .len (.var 3)) .nil))) (.cons (.tup (.cons (.ix (.var 2) (.lit (.int 2))) (.cons (.bin .add (.b1 .max (.var 3)) (.lit (.int 1))) .nil))) .nil)))) (.cons (.ifs (.or (.not (.b1 .isTuple (.var 4))) (.cmp .ne (.comp1 (.var 6) (.n 6) (.val (.var 4)) (.not (.call 0 (.cons (.var 6) (.cons (.lit (.int 0)) (.cons (.bin .sub (.var 1) (.lit (.int 1))) .nil))))) [6]) (.lst .nil))) (.cons (.ret (.lit (.bool false)))
  .nil) .nil)
  (.cons (.ifs (.cmp .notin (.var 4) (.call 5 (.cons (.var 1) (.cons (.var 5) .nil)))) (.cons (.ret (.lit (.bool false)))
  .nil) .nil)
  .nil)))
  (.cons (.ret (.and (.b1 .isInt (.ix (.var 2) (.lit (.int 3)))) (.and (.not (.b1 .isBool (.ix (.var 2) (.lit (.int 3))))) (.cmp .gt (.ix (.var 2) (.lit (.int 3))) (.lit (.int 0))))))
  .nil))))
def f_is_deed : Fn := ⟨3, 7, b_is_deed⟩
def N_is_deed : List Str := ["book", "size", "value", "before", "line", "long", "one"]
/-- is_lot (k05); id 80; slots 0:book 1:value 2:total 3:index 4:one 5:old 6:more -/
def b_is_lot : Sms := (.cons (.ifs (.or (.not (.b1 .isTuple (.var 1))) (.or (.cmp .ne (.b1 .len (.var 1)) (.lit (.int 2))) (.not (.call 0 (.cons (.ix (.var 1) (.lit (.int 0))) (.cons (.lit (.int 2)) (.cons (.glob "MOST_GRID" (.int 4)) .nil))))))) (.cons (.ret (.lit (.bool false)))
  .nil) .nil)
  (.cons (.ifs (.or (.not (.b1 .isTuple (.ix (.var 1) (.lit (.int 1))))) (.cmp .eq (.ix (.var 1) (.lit (.int 1))) (.tup .nil))) (.cons (.ret (.lit (.bool false)))
  .nil) .nil)
  (.cons (.ifs (.cmp .ne (.comp1 (.var 4) (.n 4) (.val (.ix (.var 1) (.lit (.int 1)))) (.not (.call 79 (.cons (.var 0) (.cons (.ix (.var 1) (.lit (.int 0))) (.cons (.var 4) .nil))))) [4]) (.lst .nil)) (.cons (.ret (.lit (.bool false)))
  .nil) .nil)
  (.cons (.set 2 (.bin .mul (.lst (.cons (.lit (.int 0)) .nil)) (.bin .mul (.ix (.var 1) (.lit (.int 0))) (.ix (.var 1) (.lit (.int 0))))))
  (.cons (.for (.t (.cons (.n 3) (.cons (.n 4) .nil))) (.enum (.ix (.var 1) (.lit (.int 1)))) (.cons (.ifs (.and (.cmp .gt (.var 3) (.lit (.int 0))) (.cmp .le (.sliceTo (.var 4) (.lit (.int 3))) (.sliceTo (.ix (.ix (.var 1) (.lit (.int 1))) (.bin .sub (.var 3) (.lit (.int 1)))) (.lit (.int 3))))) (.cons (.ret (.lit (.bool false)))
  .nil) .nil)
  (.cons (.set 2 (.comp0 (.bin .add (.var 5) (.bin .mul (.ix (.var 4) (.lit (.int 3))) (.var 6))) (.t (.cons (.n 5) (.cons (.n 6) .nil))) (.zip (.var 2) (.call 76 (.cons (.var 0) (.cons (.ix (.var 1) (.lit (.int 0))) (.cons (.sliceTo (.var 4) (.lit (.int 3))) .nil))))) [5, 6]))
  .nil)))
  (.cons (.ret (.cmp .eq (.var 2) (.bin .mul (.lst (.cons (.lit (.int 0)) .nil)) (.b1 .len (.var 2)))))
  .nil))))))
def f_is_lot : Fn := ⟨2, 7, b_is_lot⟩
def N_is_lot : List Str := ["book", "value", "total", "index", "one", "old", "more"]
/-- shows_lot (k05); id 81; slots 0:book 1:value -/
def b_shows_lot : Sms := (.cons (.expr (.call 3 (.cons (.var 0) .nil)))
  (.cons (.ifs (.isNone (.var 1)) (.cons (.ret (.or (.cmp .ne (.call 47 (.cons (.var 0) .nil)) (.tup .nil)) (.isNone (.call 77 (.cons (.var 0) .nil)))))
  .nil) .nil)
  (.cons (.ret (.and (.cmp .eq (.call 47 (.cons (.var 0) .nil)) (.tup .nil)) (.call 80 (.cons (.var 0) (.cons (.var 1) .nil)))))
  .nil)))
def f_shows_lot : Fn := ⟨2, 2, b_shows_lot⟩
def N_shows_lot : List Str := ["book", "value"]
/-- _law_is_vector (k05); id 82; slots 0:_law_value 1:_law_size 2:_law_x -/
def b_law_is_vector : Sms := (.cons (.ifs (.or (.not (.b1 .isTuple (.var 0))) (.cmp .ne (.b1 .len (.var 0)) (.var 1))) (.cons (.ret (.lit (.bool false)))
  .nil) .nil)
  (.cons (.ret (.cmp .eq (.comp1 (.var 2) (.n 2) (.val (.var 0)) (.or (.not (.b1 .isInt (.var 2))) (.b1 .isBool (.var 2))) [2]) (.lst .nil)))
  .nil))
def f_law_is_vector : Fn := ⟨2, 3, b_law_is_vector⟩
def N_law_is_vector : List Str := ["_law_value", "_law_size", "_law_x"]
/-- _law_is_lot (k05); id 83; slots 0:_law_book_here 1:_law_value 2:_law_one 3:_law_size 4:_law_deeds 5:_law_cells 6:_law_last 7:_law_k 8:_law_before 9:_law_after 10:_law_line 11:_law_long 12:_law_order_here 13:_law_sign 14:_law_cell -/
def b_law_is_lot : Sms := (.cons (.ifs (.or (.not (.b1 .isTuple (.var 1))) (.or (.cmp .ne (.b1 .len (.var 1)) (.lit (.int 2))) (.not (.call 82 (.cons (.sliceTo (.var 1) (.lit (.int 1))) (.cons (.lit (.int 1)) .nil)))))) (.cons (.ret (.lit (.bool false)))
  .nil) .nil)
  (.cons (.ifs (.not (.chain .le .le (.lit (.int 2)) (.ix (.var 1) (.lit (.int 0))) (.lit (.int 4)))) (.cons (.ret (.lit (.bool false)))
  .nil) .nil)
  (.cons (.par [3, 4, 5, 6] (.cons (.ix (.var 1) (.lit (.int 0))) (.cons (.ix (.var 1) (.lit (.int 1))) (.cons .emptyDict (.cons (.lit .none) .nil)))))
  (.cons (.ifs (.or (.not (.b1 .isTuple (.var 4))) (.cmp .eq (.var 4) (.tup .nil))) (.cons (.ret (.lit (.bool false)))
  .nil) .nil)
  (.cons (.for (.n 2) (.val (.var 4)) (.cons (.ifs (.or (.not (.b1 .isTuple (.var 2))) (.or (.cmp .ne (.b1 .len (.var 2)) (.lit (.int 4))) (.not (.call 82 (.cons (.tup (.cons (.ix (.var 2) (.lit (.int 0))) (.cons (.ix (.var 2) (.lit (.int 3))) .nil))) (.cons (.lit (.int 2)) .nil)))))) (.cons (.ret (.lit (.bool false)))
  .nil) .nil)
  (.cons (.ifs (.or (.not (.chain .le .lt (.lit (.int 0)) (.ix (.var 2) (.lit (.int 0))) (.b1 .len (.var 0)))) (.cmp .lt (.ix (.var 2) (.lit (.int 3))) (.lit (.int 1)))) (.cons (.ret (.lit (.bool false)))
  .nil) .nil)
  (.cons (.setT (.cons (.n 8) (.cons (.n 9) .nil)) (.ix (.var 0) (.ix (.var 2) (.lit (.int 0)))))
  (.cons (.for (.t (.cons (.n 10) (.cons (.n 11) .nil))) (.val (.lst (.cons (.tup (.cons (.ix (.var 2) (.lit (.int 1))) (.cons (.b1 .len (.var 8)) .nil))) (.cons (.tup (.cons (.ix (.var 2) (.lit (.int 2))) (.cons (.bin .add (.b1 .max (.var 8)) (.lit (.int 1))) .nil))) .nil)))) (.cons (.ifs (.or (.not (.b1 .isTuple (.var 10))) (.not (.call 82 (.cons (.var 10) (.cons (.var 11) .nil))))) (.cons (.ret (.lit (.bool false)))
  .nil) .nil)
  (.cons (.ifs (.cmp .notin (.var 10) (.call 24 (.cons (.var 3) (.cons (.var 11) .nil)))) (.cons (.ret (.lit (.bool false)))
  .nil) .nil)
  .nil)))
  (.cons (.ifs (.and (.notNone (.var 6)) (.cmp .le (.sliceTo (.var 2) (.lit (.int 3))) (.var 6))) (.cons (.ret (.lit (.bool false)))
  .nil) .nil)
  (.cons (.set 6 (.sliceTo (.var 2) (.lit (.int 3))))
  (.cons (.for (.n 7) (.range1 (.b1 .len (.var 8))) (.cons (.for (.t (.cons (.n 12) (.cons (.n 13) .nil))) (.val (.lst (.cons (.tup (.cons (.var 8) (.cons (.neg (.lit (.int 1))) .nil))) (.cons (.tup (.cons (.var 9) (.cons (.lit (.int 1)) .nil))) .nil)))) (.cons (.set 14 (.tup (.cons (.ix (.ix (.var 2) (.lit (.int 1))) (.var 7)) (.cons (.ix (.ix (.var 2) (.lit (.int 2))) (.ix (.var 12) (.var 7))) .nil))))
  (.cons (.setIx 5 (.var 14) (.bin .add (.get3 (.var 5) (.var 14) (.lit (.int 0))) (.bin .mul (.var 13) (.ix (.var 2) (.lit (.int 3))))))
  .nil)))
  .nil))
  .nil))))))))
  (.cons (.ret (.cmp .eq (.comp1 (.var 14) (.n 14) (.val (.var 5)) (.cmp .ne (.ix (.var 5) (.var 14)) (.lit (.int 0))) [14]) (.lst .nil)))
  .nil))))))
def f_law_is_lot : Fn := ⟨2, 15, b_law_is_lot⟩
def N_law_is_lot : List Str := ["_law_book_here", "_law_value", "_law_one", "_law_size", "_law_deeds", "_law_cells", "_law_last", "_law_k", "_law_before", "_law_after", "_law_line", "_law_long", "_law_order_here", "_law_sign", "_law_cell"]
/-- law (k05); id 84; slots 0:_law_script 1:_law_row 2:_law_book_here 3:_law_base 4:_law_values 5:_law_value 6:_law_some 7:_law_size 8:_law_deeds 9:_law_one 10:_law_before 11:_law_after -/
def b_law_k05 : Sms := (.cons (.newCell 1 0 [0, 10605, 0])
  (.cons (.set 2 (.call 39 (.cons (.var 1) (.cons (.lst (.cons (.call 22 (.cons (.var 1) (.cons (.lit (.int 3)) .nil))) (.cons (.call 22 (.cons (.var 1) (.cons (.lit (.int 3)) .nil))) (.cons (.call 22 (.cons (.var 1) (.cons (.lit (.int 4)) .nil))) .nil)))) .nil))))
  (.cons (.set 3 (.call 78 (.cons (.var 2) .nil)))
  (.cons (.ifs (.or (.cmp .isnb (.call 81 (.cons (.var 2) (.cons (.var 3) .nil))) (.lit (.bool true))) (.and (.notNone (.var 3)) (.or (.call 49 (.cons (.var 2) .nil)) (.not (.call 83 (.cons (.var 2) (.cons (.var 3) .nil))))))) (.cons (.ret (.lit (.bool false)))
  .nil) .nil)
  (.cons (.ifs (.and (.isNone (.var 3)) (.and (.not (.call 49 (.cons (.var 2) .nil))) (.cmp .lt (.b1 .max (.comp0 (.b1 .len (.var 10)) (.t (.cons (.n 10) (.cons (.n 11) .nil))) (.val (.var 2)) [10, 11])) (.lit (.int 4))))) (.cons (.ret (.lit (.bool false)))
  .nil) .nil)
  (.cons (.ifs (.call 49 (.cons (.var 2) .nil)) (.cons (.set 6 (.tup (.cons (.lit (.int 2)) (.cons (.tup (.cons (.tup (.cons (.lit (.int 0)) (.cons (.tup (.cons (.lit (.int 0)) (.cons (.lit (.int 1)) .nil))) (.cons (.tup (.cons (.lit (.int 0)) (.cons (.lit (.int 1)) .nil))) (.cons (.lit (.int 1)) .nil))))) .nil)) .nil))))
  (.cons (.ret (.and (.isNone (.var 3)) (.cmp .eq (.comp1 (.var 5) (.n 5) (.val (.lst (.cons (.var 6) (.cons (.tup .nil) (.cons (.lit (.int 3)) (.cons .emptyDict (.cons (.tup (.cons (.lit (.int 2)) (.cons (.tup .nil) .nil))) (.cons (.lst (.cons (.lit (.int 2)) (.cons (.tup .nil) .nil))) .nil)))))))) (.cmp .isnb (.call 81 (.cons (.var 2) (.cons (.var 5) .nil))) (.lit (.bool false))) [5]) (.lst .nil))))
  .nil)) .nil)
  (.cons (.setT (.cons (.n 7) (.cons (.n 8) .nil)) (.ite (.notNone (.var 3)) (.var 3) (.tup (.cons (.lit (.int 2)) (.cons (.tup (.cons (.tup (.cons (.lit (.int 0)) (.cons (.tup (.cons (.lit (.int 0)) (.cons (.lit (.int 1)) .nil))) (.cons (.tup (.cons (.lit (.int 0)) (.cons (.lit (.int 1)) .nil))) (.cons (.lit (.int 1)) .nil))))) .nil)) .nil)))))
  (.cons (.set 4 (.lst (.cons (.tup (.cons (.var 7) (.cons (.rev (.var 8)) .nil))) (.cons (.tup (.cons (.var 7) (.cons (.sliceFrom (.var 8) (.lit (.int 1))) .nil))) (.cons (.tup (.cons (.var 7) (.cons (.bin .add (.var 8) (.sliceFrom (.var 8) (.neg (.lit (.int 1))))) .nil))) (.cons (.tup (.cons (.bin .add (.var 7) (.lit (.int 1))) (.cons (.var 8) .nil))) (.cons (.tup (.cons (.lit (.int 5)) (.cons (.var 8) .nil))) .nil)))))))
  (.cons (.set 4 (.bin .add (.var 4) (.lst (.cons (.tup (.cons (.lit (.int 1)) (.cons (.var 8) .nil))) (.cons (.lst (.cons (.var 7) (.cons (.var 8) .nil))) (.cons (.tup (.cons (.var 7) (.cons (.b1 .list (.var 8)) .nil))) (.cons (.tup (.cons (.var 7) .nil)) .nil)))))))
  (.cons (.set 4 (.bin .add (.var 4) (.lst (.cons (.tup (.cons (.var 7) (.cons (.b1 .tuple (.comp0 (.bin .add (.sliceTo (.var 9) (.lit (.int 3))) (.tup (.cons (.bin .mul (.lit (.int 3)) (.ix (.var 9) (.lit (.int 3)))) .nil))) (.n 9) (.val (.var 8)) [9])) .nil))) (.cons (.tup (.cons (.var 7) (.cons (.tup .nil) .nil))) (.cons (.lit (.int 3)) (.cons .emptyDict .nil)))))))
  (.cons (.append 4 (.tup (.cons (.var 7) (.cons (.b1 .tuple (.comp0 (.bin .add (.sliceTo (.var 9) (.lit (.int 3))) (.tup (.cons (.bin .sub (.lit (.int 0)) (.ix (.var 9) (.lit (.int 3)))) .nil))) (.n 9) (.val (.var 8)) [9])) .nil))))
  (.cons (.set 4 (.bin .add (.var 4) (.lst (.cons (.tup (.cons (.var 7) (.cons (.bin .add (.sliceTo (.var 8) (.neg (.lit (.int 1)))) (.tup (.cons (.bin .add (.sliceTo (.ix (.var 8) (.neg (.lit (.int 1)))) (.lit (.int 3))) (.tup (.cons (.bin .add (.ix (.ix (.var 8) (.neg (.lit (.int 1)))) (.lit (.int 3))) (.lit (.int 1))) .nil))) .nil))) .nil))) .nil))))
  (.cons (.set 4 (.bin .add (.var 4) (.lst (.cons (.tup (.cons (.var 7) (.cons (.bin .add (.sliceTo (.var 8) (.neg (.lit (.int 1)))) (.tup (.cons (.sliceTo (.ix (.var 8) (.neg (.lit (.int 1)))) (.lit (.int 3))) .nil))) .nil))) (.cons (.tup (.cons (.lit (.bool true)) (.cons (.var 8) .nil))) (.cons (.tup (.cons (.var 7) (.cons (.tup (.cons (.lit .none) .nil)) .nil))) .nil))))))
  (.cons (.append 4 (.tup (.cons (.var 7) (.cons (.b1 .tuple (.comp0 (.tup (.cons (.ix (.var 9) (.lit (.int 0))) (.cons (.ix (.var 9) (.lit (.int 2))) (.cons (.ix (.var 9) (.lit (.int 1))) (.cons (.ix (.var 9) (.lit (.int 3))) .nil))))) (.n 9) (.val (.var 8)) [9])) .nil))))
  (.cons (.freeze 4)
  (.cons (.for (.n 5) (.val (.var 4)) (.cons (.ifs (.not (.call 23 (.cons (.call 81 (.cons (.var 2) (.cons (.var 5) .nil))) (.cons (.call 83 (.cons (.var 2) (.cons (.var 5) .nil))) .nil)))) (.cons (.ret (.lit (.bool false)))
  .nil) .nil)
  .nil))
  (.cons (.ret (.call 23 (.cons (.call 81 (.cons (.var 2) (.cons (.lit .none) .nil))) (.cons (.isNone (.var 3)) .nil))))
  .nil)))))))))))))))))
def f_law_k05 : Fn := ⟨1, 12, b_law_k05⟩
def N_law_k05 : List Str := ["_law_script", "_law_row", "_law_book_here", "_law_base", "_law_values", "_law_value", "_law_some", "_law_size", "_law_deeds", "_law_one", "_law_before", "_law_after"]
/-- law (k06); id 85; slots 0:_law_script 1:_law_row 2:_law_book_here 3:_law_word 4:_law_turn 5:_law_short 6:_law_here 7:_law_ups 8:_law_one 9:_law_there 10:_law_wrong 11:_law_line 12:_law_k 13:_law_other -/
def b_law_k06 : Sms := (.cons (.newCell 1 0 [0, 10606, 0])
  (.cons (.set 2 (.call 39 (.cons (.var 1) (.cons (.lst (.cons (.call 22 (.cons (.var 1) (.cons (.lit (.int 4)) .nil))) (.cons (.call 22 (.cons (.var 1) (.cons (.lit (.int 3)) .nil))) (.cons (.call 22 (.cons (.var 1) (.cons (.lit (.int 2)) .nil))) .nil)))) .nil))))
  (.cons (.set 3 (.call 52 (.cons (.var 2) .nil)))
  (.cons (.ifs (.cmp .ne (.var 3) (.lit (.str "square"))) (.cons (.ret (.cmp .isin (.var 3) (.lst (.cons (.lit (.str "greater")) (.cons (.lit (.str "endless")) .nil)))))
  .nil) .nil)
  (.cons (.par [6, 7] (.cons (.call 19 (.cons (.var 1) (.cons (.call 16 (.cons (.var 1) (.cons (.lit (.int 7)) .nil))) .nil))) (.cons (.lst .nil) .nil)))
  (.cons (.for (.n 4) (.range1 (.lit (.int 4))) (.cons (.set 8 (.call 19 (.cons (.var 1) (.cons (.bin .add (.lit (.int 2)) (.call 16 (.cons (.var 1) (.cons (.lit (.int 5)) .nil)))) .nil))))
  (.cons (.for (.n 9) (.val (.call 9 (.cons (.var 2) (.cons (.var 8) .nil)))) (.cons (.set 10 (.comp0 (.b1 .sum (.comp0 (.b1 .len (.comp1 (.var 13) (.n 13) (.val (.sliceFrom (.var 11) (.bin .add (.var 12) (.lit (.int 1))))) (.cmp .lt (.var 13) (.ix (.var 11) (.var 12))) [13])) (.n 12) (.range1 (.b1 .len (.var 11))) [12])) (.n 11) (.val (.lst (.cons (.var 8) (.cons (.var 9) .nil)))) [11]))
  (.cons (.append 7 (.bin .sub (.ix (.var 10) (.lit (.int 1))) (.ix (.var 10) (.lit (.int 0)))))
  .nil)))
  .nil)))
  (.cons (.ifs (.and (.cmp .ne (.var 7) (.lst .nil)) (.and (.cmp .le (.b1 .min (.var 7)) (.lit (.int 0))) (.cmp .ge (.b1 .max (.var 7)) (.lit (.int 0))))) (.cons (.ret (.lit (.bool false)))
  .nil) .nil)
  (.cons (.set 5 (.ite (.cmp .lt (.b1 .len (.var 6)) (.lit (.int 6))) (.sliceTo (.var 6) (.lit (.int 5))) (.call 19 (.cons (.var 1) (.cons (.lit (.int 5)) .nil)))))
  (.cons (.ret (.cmp .le (.call 15 (.cons (.var 2) (.cons (.var 5) .nil))) (.bin .fdiv (.bin .mul (.b1 .len (.var 5)) (.bin .sub (.b1 .len (.var 5)) (.lit (.int 1)))) (.lit (.int 2)))))
  .nil)))))))))
def f_law_k06 : Fn := ⟨1, 14, b_law_k06⟩
def N_law_k06 : List Str := ["_law_script", "_law_row", "_law_book_here", "_law_word", "_law_turn", "_law_short", "_law_here", "_law_ups", "_law_one", "_law_there", "_law_wrong", "_law_line", "_law_k", "_law_other"]
/-- longest_rule (k07); id 86; slots 0:book 1:before 2:after -/
def b_longest_rule : Sms := (.cons (.ret (.b1 .max (.bin .add (.lst (.cons (.lit (.int 0)) .nil)) (.comp0 (.b1 .len (.var 1)) (.t (.cons (.n 1) (.cons (.n 2) .nil))) (.val (.var 0)) [1, 2]))))
  .nil)
def f_longest_rule : Fn := ⟨1, 3, b_longest_rule⟩
def N_longest_rule : List Str := ["book", "before", "after"]
/-- need_ending (k07); id 87; slots 0:book -/
def b_need_ending : Sms := (.cons (.expr (.call 3 (.cons (.var 0) .nil)))
  (.cons (.ifs (.cmp .eq (.call 47 (.cons (.var 0) .nil)) (.tup .nil)) (.cons .never
  .nil) .nil)
  (.cons (.ifs (.cmp .gt (.call 86 (.cons (.var 0) .nil)) (.glob "MOST_MET" (.int 3))) (.cons .never
  .nil) .nil)
  .nil)))
def f_need_ending : Fn := ⟨1, 1, b_need_ending⟩
def N_need_ending : List Str := ["book"]
/-- rests_of (k07); id 88; slots 0:book 1:rows 2:row 3:found 4:known 5:line 6:here 7:wait 8:some 9:there -/
def b_rests_of : Sms := (.cons (.par [3, 4] (.cons .emptyDict (.cons .emptyDict .nil)))
  (.cons (.for (.n 2) (.val (.var 1)) (.cons (.set 5 (.ite (.cmp .notin (.var 2) (.var 3)) (.lst (.cons (.var 2) .nil)) (.lst .nil)))
  (.cons (.while (.cmp .ne (.var 5) (.lst .nil)) (.cons (.set 6 (.ix (.var 5) (.neg (.lit (.int 1)))))
  (.cons (.ifs (.cmp .notin (.var 6) (.var 4)) (.cons (.setIx 4 (.var 6) (.call 7 (.cons (.var 0) (.cons (.var 6) .nil))))
  .nil) .nil)
  (.cons (.set 7 (.comp1 (.var 9) (.n 9) (.val (.ix (.var 4) (.var 6))) (.cmp .notin (.var 9) (.var 3)) [9]))
  (.cons (.ifs (.cmp .ne (.var 7) (.lst .nil)) (.cons (.append 5 (.ix (.var 7) (.lit (.int 0))))
  .nil) (.cons (.set 8 (.ite (.cmp .eq (.ix (.var 4) (.var 6)) (.lst .nil)) (.lst (.cons (.var 6) .nil)) (.lst .nil)))
  (.cons (.for (.n 9) (.val (.ix (.var 4) (.var 6))) (.cons (.set 8 (.bin .add (.var 8) (.ix (.var 3) (.var 9))))
  .nil))
  (.cons (.setIx 3 (.var 6) (.b1 .sortedSet (.var 8)))
  (.cons (.pop 5)
  .nil)))))
  .nil)))))
  .nil)))
  (.cons (.freeze 3)
  (.cons (.ret (.var 3))
  .nil))))
def f_rests_of : Fn := ⟨2, 10, b_rests_of⟩
def N_rests_of : List Str := ["book", "rows", "row", "found", "known", "line", "here", "wait", "some", "there"]
/-- clash_in (k07); id 89; slots 0:book 1:many 2:rows 3:told 4:row -/
def b_clash_in : Sms := (.cons (.for (.n 1) (.range2 (.lit (.int 1)) (.bin .mul (.lit (.int 2)) (.call 86 (.cons (.var 0) .nil)))) (.cons (.set 2 (.call 58 (.cons (.var 1) .nil)))
  (.cons (.set 3 (.call 88 (.cons (.var 0) (.cons (.var 2) .nil))))
  (.cons (.for (.n 4) (.val (.var 2)) (.cons (.ifs (.cmp .gt (.b1 .len (.ix (.var 3) (.var 4))) (.lit (.int 1))) (.cons (.ret (.tup (.cons (.var 4) (.cons (.ix (.ix (.var 3) (.var 4)) (.lit (.int 0))) (.cons (.ix (.ix (.var 3) (.var 4)) (.lit (.int 1))) .nil)))))
  .nil) .nil)
  .nil))
  .nil))))
  (.cons (.ret (.lit .none))
  .nil))
def f_clash_in : Fn := ⟨1, 5, b_clash_in⟩
def N_clash_in : List Str := ["book", "many", "rows", "told", "row"]
/-- clash (k07); id 90; slots 0:book -/
def b_clash : Sms := (.cons (.expr (.call 87 (.cons (.var 0) .nil)))
  (.cons (.ret (.call 89 (.cons (.var 0) .nil)))
  .nil))
def f_clash : Fn := ⟨1, 1, b_clash⟩
def N_clash : List Str := ["book"]
/-- has_one_rest (k07); id 91; slots 0:book -/
def b_has_one_rest : Sms := (.cons (.expr (.call 87 (.cons (.var 0) .nil)))
  (.cons (.ret (.isNone (.call 89 (.cons (.var 0) .nil))))
  .nil))
def f_has_one_rest : Fn := ⟨1, 1, b_has_one_rest⟩
def N_has_one_rest : List Str := ["book"]
/-- _law_calm (k07); id 92; slots 0:_law_row 1:_law_some 2:_law_order_here -/
def b_law_calm : Sms := (.cons (.set 1 (.lst (.cons (.tup (.cons (.tup (.cons (.tup (.cons (.lit (.int 1)) (.cons (.lit (.int 0)) .nil))) (.cons (.tup (.cons (.lit (.int 0)) (.cons (.lit (.int 1)) .nil))) .nil))) .nil)) (.cons (.tup (.cons (.tup (.cons (.tup (.cons (.lit (.int 0)) (.cons (.lit (.int 1)) .nil))) (.cons (.tup (.cons (.lit (.int 1)) (.cons (.lit (.int 0)) .nil))) .nil))) .nil)) (.cons (.tup .nil) (.cons (.tup (.cons (.tup (.cons (.tup (.cons (.lit (.int 1)) (.cons (.lit (.int 0)) (.cons (.lit (.int 0)) .nil)))) (.cons (.tup (.cons (.lit (.int 0)) (.cons (.lit (.int 0)) (.cons (.lit (.int 1)) .nil)))) .nil))) .nil)) .nil))))))
  (.cons (.set 1 (.bin .add (.var 1) (.lst (.cons (.tup (.cons (.tup (.cons (.tup (.cons (.lit (.int 0)) (.cons (.lit (.int 1)) (.cons (.lit (.int 0)) .nil)))) (.cons (.tup (.cons (.lit (.int 0)) (.cons (.lit (.int 0)) (.cons (.lit (.int 1)) .nil)))) .nil))) (.cons (.tup (.cons (.tup (.cons (.lit (.int 1)) (.cons (.lit (.int 0)) (.cons (.lit (.int 0)) .nil)))) (.cons (.tup (.cons (.lit (.int 0)) (.cons (.lit (.int 0)) (.cons (.lit (.int 1)) .nil)))) .nil))) .nil))) .nil))))
  (.cons (.set 1 (.bin .add (.var 1) (.lst (.cons (.tup (.cons (.tup (.cons (.tup (.cons (.lit (.int 1)) (.cons (.lit (.int 0)) (.cons (.lit (.int 1)) .nil)))) (.cons (.tup (.cons (.lit (.int 0)) (.cons (.lit (.int 1)) (.cons (.lit (.int 1)) .nil)))) .nil))) (.cons (.tup (.cons (.tup (.cons (.lit (.int 1)) (.cons (.lit (.int 1)) (.cons (.lit (.int 0)) .nil)))) (.cons (.tup (.cons (.lit (.int 0)) (.cons (.lit (.int 1)) (.cons (.lit (.int 1)) .nil)))) .nil))) .nil))) (.cons (.tup (.cons (.tup (.cons (.tup (.cons (.lit (.int 0)) (.cons (.lit (.int 2)) (.cons (.lit (.int 1)) .nil)))) (.cons (.tup (.cons (.lit (.int 0)) (.cons (.lit (.int 1)) (.cons (.lit (.int 2)) .nil)))) .nil))) .nil)) .nil)))))
  (.cons (.set 1 (.bin .add (.var 1) (.lst (.cons (.tup (.cons (.tup (.cons (.tup (.cons (.lit (.int 1)) (.cons (.lit (.int 0)) .nil))) (.cons (.tup (.cons (.lit (.int 0)) (.cons (.lit (.int 1)) .nil))) .nil))) (.cons (.tup (.cons (.tup (.cons (.lit (.int 2)) (.cons (.lit (.int 1)) (.cons (.lit (.int 0)) .nil)))) (.cons (.tup (.cons (.lit (.int 0)) (.cons (.lit (.int 1)) (.cons (.lit (.int 2)) .nil)))) .nil))) .nil))) .nil))))
  (.cons (.append 1 (.b1 .tuple (.comp0 (.tup (.cons (.var 2) (.cons (.tup (.cons (.lit (.int 0)) (.cons (.lit (.int 1)) (.cons (.lit (.int 2)) .nil)))) .nil))) (.n 2) (.val (.lst (.cons (.tup (.cons (.lit (.int 0)) (.cons (.lit (.int 2)) (.cons (.lit (.int 1)) .nil)))) (.cons (.tup (.cons (.lit (.int 1)) (.cons (.lit (.int 0)) (.cons (.lit (.int 2)) .nil)))) (.cons (.tup (.cons (.lit (.int 1)) (.cons (.lit (.int 2)) (.cons (.lit (.int 0)) .nil)))) (.cons (.tup (.cons (.lit (.int 2)) (.cons (.lit (.int 0)) (.cons (.lit (.int 1)) .nil)))) (.cons (.tup (.cons (.lit (.int 2)) (.cons (.lit (.int 1)) (.cons (.lit (.int 0)) .nil)))) .nil))))))) [2])))
  (.cons (.append 1 (.tup (.cons (.tup (.cons (.tup (.cons (.lit (.int 1)) (.cons (.lit (.int 0)) .nil))) (.cons (.tup (.cons (.lit (.int 0)) (.cons (.lit (.int 1)) .nil))) .nil))) (.cons (.tup (.cons (.tup (.cons (.lit (.int 1)) (.cons (.lit (.int 0)) (.cons (.lit (.int 0)) .nil)))) (.cons (.tup (.cons (.lit (.int 0)) (.cons (.lit (.int 0)) (.cons (.lit (.int 1)) .nil)))) .nil))) (.cons (.tup (.cons (.tup (.cons (.lit (.int 2)) (.cons (.lit (.int 0)) (.cons (.lit (.int 1)) .nil)))) (.cons (.tup (.cons (.lit (.int 0)) (.cons (.lit (.int 1)) (.cons (.lit (.int 2)) .nil)))) .nil))) .nil)))))
  (.cons (.freeze 1)
  (.cons (.ret (.b1 .tuple (.b1 .sorted (.call 39 (.cons (.var 0) (.cons (.var 1) .nil))))))
  .nil))))))))
def f_law_calm : Fn := ⟨1, 3, b_law_calm⟩
def N_law_calm : List Str := ["_law_row", "_law_some", "_law_order_here"]
/-- _law_all_rests (k07); id 93; slots 0:_law_book_here 1:_law_many 2:_law_here 3:_law_told 4:_law_found 5:_law_moved 6:_law_there 7:_law_some -/
def b_law_all_rests : Sms := (.cons (.par [3, 4, 5] (.cons .emptyDict (.cons .emptyDict (.cons (.lit (.bool true)) .nil))))
  (.cons (.for (.n 2) (.val (.call 60 (.cons (.var 1) .nil))) (.cons (.setIx 3 (.var 2) (.call 25 (.cons (.var 0) (.cons (.var 2) .nil))))
  .nil))
  (.cons (.while (.var 5) (.cons (.set 5 (.lit (.bool false)))
  (.cons (.freeze 3)
  (.cons (.for (.n 2) (.keys (.var 3)) (.cons (.ifs (.and (.cmp .notin (.var 2) (.var 4)) (.cmp .eq (.comp1 (.var 6) (.n 6) (.val (.ix (.var 3) (.var 2))) (.cmp .notin (.var 6) (.var 4)) [6]) (.lst .nil))) (.cons (.par [7, 5] (.cons (.ite (.cmp .eq (.ix (.var 3) (.var 2)) (.lst .nil)) (.lst (.cons (.var 2) .nil)) (.lst .nil)) (.cons (.lit (.bool true)) .nil)))
  (.cons (.for (.n 6) (.val (.ix (.var 3) (.var 2))) (.cons (.set 7 (.bin .add (.var 7) (.ix (.var 4) (.var 6))))
  .nil))
  (.cons (.setIx 4 (.var 2) (.b1 .sortedSet (.var 7)))
  .nil))) .nil)
  .nil))
  .nil))))
  (.cons (.freeze 4)
  (.cons (.ret (.var 4))
  .nil)))))
def f_law_all_rests : Fn := ⟨2, 8, b_law_all_rests⟩
def N_law_all_rests : List Str := ["_law_book_here", "_law_many", "_law_here", "_law_told", "_law_found", "_law_moved", "_law_there", "_law_some"]
/-- _law_clash (k07); id 94; slots 0:_law_book_here 1:_law_most 2:_law_many 3:_law_told 4:_law_here 5:_law_before 6:_law_after -/
def b_law_clash : Sms := (.cons (.set 1 (.b1 .max (.bin .add (.lst (.cons (.lit (.int 0)) .nil)) (.comp0 (.b1 .len (.var 5)) (.t (.cons (.n 5) (.cons (.n 6) .nil))) (.val (.var 0)) [5, 6]))))
  (.cons (.for (.n 2) (.range2 (.lit (.int 1)) (.bin .mul (.lit (.int 2)) (.var 1))) (.cons (.set 3 (.call 93 (.cons (.var 0) (.cons (.var 2) .nil))))
  (.cons (.for (.n 4) (.val (.b1 .keys (.var 3))) (.cons (.ifs (.cmp .gt (.b1 .len (.ix (.var 3) (.var 4))) (.lit (.int 1))) (.cons (.ret (.tup (.cons (.var 4) (.cons (.ix (.ix (.var 3) (.var 4)) (.lit (.int 0))) (.cons (.ix (.ix (.var 3) (.var 4)) (.lit (.int 1))) .nil)))))
  .nil) .nil)
  .nil))
  .nil)))
  (.cons (.ret (.lit .none))
  .nil)))
def f_law_clash : Fn := ⟨1, 7, b_law_clash⟩
def N_law_clash : List Str := ["_law_book_here", "_law_most", "_law_many", "_law_told", "_law_here", "_law_before", "_law_after"]
def f_law_k07 : Fn := ⟨0, 0, .nil⟩ -- not carried: Try
/-- need_one_rest (k08); id 96; slots 0:book -/
def b_need_one_rest : Sms := (.cons (.expr (.call 87 (.cons (.var 0) .nil)))
  (.cons (.ifs (.notNone (.call 89 (.cons (.var 0) .nil))) (.cons .never
  .nil) .nil)
  .nil))
def f_need_one_rest : Fn := ⟨1, 1, b_need_one_rest⟩
def N_need_one_rest : List Str := ["book"]
/-- rested (k08); id 97; slots 0:book 1:row 2:found 3:some -/
def b_rested : Sms := (.cons (.set 2 (.var 1))
  (.cons (.set 3 (.call 7 (.cons (.var 0) (.cons (.var 2) .nil))))
  (.cons (.while (.cmp .ne (.var 3) (.lst .nil)) (.cons (.set 2 (.ix (.var 3) (.lit (.int 0))))
  (.cons (.set 3 (.call 7 (.cons (.var 0) (.cons (.var 2) .nil))))
  .nil)))
  (.cons (.ret (.var 2))
  .nil))))
def f_rested : Fn := ⟨2, 4, b_rested⟩
def N_rested : List Str := ["book", "row", "found", "some"]
/-- rest (k08); id 98; slots 0:book 1:row -/
def b_rest : Sms := (.cons (.expr (.call 96 (.cons (.var 0) .nil)))
  (.cons (.expr (.call 4 (.cons (.var 1) (.cons (.glob "MOST_LENGTH" (.int 12)) .nil))))
  (.cons (.ret (.call 97 (.cons (.var 0) (.cons (.var 1) .nil))))
  .nil)))
def f_rest : Fn := ⟨2, 2, b_rest⟩
def N_rest : List Str := ["book", "row"]
/-- law (k08); id 99; slots 0:_law_script 1:_law_row 2:_law_book_here 3:_law_here 4:_law_told 5:_law_one 6:_law_other -/
def b_law_k08 : Sms := (.cons (.newCell 1 0 [0, 10608, 0])
  (.cons (.set 2 (.call 39 (.cons (.var 1) (.cons (.lst (.cons (.call 92 (.cons (.var 1) .nil)) (.cons (.call 92 (.cons (.var 1) .nil)) (.cons (.call 22 (.cons (.var 1) (.cons (.lit (.int 3)) .nil))) (.cons (.call 22 (.cons (.var 1) (.cons (.lit (.int 2)) .nil))) .nil))))) .nil))))
  (.cons (.ifs (.not (.call 49 (.cons (.var 2) .nil))) (.cons (.ret (.lit (.bool true)))
  .nil) .nil)
  (.cons (.ifs (.not (.call 91 (.cons (.var 2) .nil))) (.cons (.setT (.cons (.n 3) (.cons (.n 5) (.cons (.n 6) .nil))) (.call 90 (.cons (.var 2) .nil)))
  (.cons (.set 4 (.call 28 (.cons (.call 26 (.cons (.var 2) (.cons (.var 3) .nil))) .nil)))
  (.cons (.ret (.and (.cmp .isin (.var 5) (.var 4)) (.and (.cmp .isin (.var 6) (.var 4)) (.cmp .ne (.var 5) (.var 6)))))
  .nil))) .nil)
  (.cons (.set 3 (.call 19 (.cons (.var 1) (.cons (.bin .add (.lit (.int 5)) (.call 16 (.cons (.var 1) (.cons (.lit (.int 2)) .nil)))) .nil))))
  (.cons (.set 4 (.call 26 (.cons (.var 2) (.cons (.var 3) .nil))))
  (.cons (.ret (.and (.call 23 (.cons (.lst (.cons (.call 98 (.cons (.var 2) (.cons (.var 3) .nil))) .nil)) (.cons (.call 28 (.cons (.var 4) .nil)) .nil))) (.isNone (.call 90 (.cons (.var 2) .nil)))))
  .nil)))))))
def f_law_k08 : Fn := ⟨1, 7, b_law_k08⟩
def N_law_k08 : List Str := ["_law_script", "_law_row", "_law_book_here", "_law_here", "_law_told", "_law_one", "_law_other"]
/-- lies_in (k09); id 100; slots 0:order 1:row 2:line 3:at -/
def b_lies_in : Sms := (.cons (.ret (.cmp .ne (.comp1 (.var 2) (.n 2) (.val (.call 5 (.cons (.b1 .len (.var 1)) (.cons (.b1 .len (.var 0)) .nil)))) (.cmp .eq (.ix (.call 6 (.cons (.comp0 (.ix (.var 1) (.var 3)) (.n 3) (.val (.var 2)) [3]) .nil)) (.lit (.int 0))) (.var 0)) [2]) (.lst .nil)))
  .nil)
def f_lies_in : Fn := ⟨2, 4, b_lies_in⟩
def N_lies_in : List Str := ["order", "row", "line", "at"]
/-- is_calm (k09); id 101; slots 0:book 1:row 2:before 3:after -/
def b_is_calm : Sms := (.cons (.ret (.cmp .eq (.comp1 (.var 2) (.t (.cons (.n 2) (.cons (.n 3) .nil))) (.val (.var 0)) (.call 100 (.cons (.var 2) (.cons (.var 1) .nil))) [2, 3]) (.lst .nil)))
  .nil)
def f_is_calm : Fn := ⟨2, 4, b_is_calm⟩
def N_is_calm : List Str := ["book", "row", "before", "after"]
/-- part_of (k09); id 102; slots 0:row 1:at 2:spot 3:one -/
def b_part_of : Sms := (.cons (.ret (.ix (.call 6 (.cons (.comp1 (.var 3) (.t (.cons (.n 2) (.cons (.n 3) .nil))) (.enum (.var 0)) (.cmp .ne (.var 2) (.var 1)) [2, 3]) .nil)) (.lit (.int 0))))
  .nil)
def f_part_of : Fn := ⟨2, 4, b_part_of⟩
def N_part_of : List Str := ["row", "at", "spot", "one"]
/-- least_in (k09); id 103; slots 0:book 1:rules 2:many 3:row 4:parts 5:at 6:part -/
def b_least_in : Sms := (.cons (.set 1 (.lst .nil))
  (.cons (.for (.n 2) (.range2 (.lit (.int 2)) (.bin .add (.call 86 (.cons (.var 0) .nil)) (.lit (.int 1)))) (.cons (.for (.n 3) (.val (.call 58 (.cons (.var 2) .nil))) (.cons (.set 4 (.comp0 (.call 102 (.cons (.var 3) (.cons (.var 5) .nil))) (.n 5) (.range1 (.var 2)) [5]))
  (.cons (.ifs (.and (.not (.call 101 (.cons (.var 0) (.cons (.var 3) .nil)))) (.cmp .eq (.comp1 (.var 6) (.n 6) (.val (.var 4)) (.not (.call 101 (.cons (.var 0) (.cons (.var 6) .nil)))) [6]) (.lst .nil))) (.cons (.append 1 (.tup (.cons (.var 3) (.cons (.call 97 (.cons (.var 0) (.cons (.var 3) .nil))) .nil))))
  .nil) .nil)
  .nil)))
  .nil))
  (.cons (.ret (.b1 .tuple (.b1 .sorted (.var 1))))
  .nil)))
def f_least_in : Fn := ⟨1, 7, b_least_in⟩
def N_least_in : List Str := ["book", "rules", "many", "row", "parts", "at", "part"]
/-- least_book (k09); id 104; slots 0:book -/
def b_least_book : Sms := (.cons (.expr (.call 96 (.cons (.var 0) .nil)))
  (.cons (.ret (.call 103 (.cons (.var 0) .nil)))
  .nil))
def f_least_book : Fn := ⟨1, 1, b_least_book⟩
def N_least_book : List Str := ["book"]
/-- alike (k09); id 105; slots 0:book 1:other -/
def b_alike : Sms := (.cons (.expr (.call 96 (.cons (.var 0) .nil)))
  (.cons (.expr (.call 96 (.cons (.var 1) .nil)))
  (.cons (.ret (.cmp .eq (.call 103 (.cons (.var 0) .nil)) (.call 103 (.cons (.var 1) .nil))))
  .nil)))
def f_alike : Fn := ⟨2, 2, b_alike⟩
def N_alike : List Str := ["book", "other"]
/-- _law_one_rest (k09); id 106; slots 0:_law_row 1:_law_turn 2:_law_book_here -/
def b_law_one_rest : Sms := (.cons (.for (.n 1) (.range1 (.lit (.int 3))) (.cons (.set 2 (.call 39 (.cons (.var 0) (.cons (.lst (.cons (.call 92 (.cons (.var 0) .nil)) (.cons (.call 92 (.cons (.var 0) .nil)) (.cons (.call 22 (.cons (.var 0) (.cons (.lit (.int 3)) .nil))) .nil)))) .nil))))
  (.cons (.ifs (.and (.cmp .ne (.call 54 (.cons (.var 2) .nil)) (.tup .nil)) (.isNone (.call 94 (.cons (.var 2) .nil)))) (.cons (.ret (.var 2))
  .nil) .nil)
  .nil)))
  (.cons (.ret (.tup (.cons (.tup (.cons (.tup (.cons (.lit (.int 1)) (.cons (.lit (.int 0)) .nil))) (.cons (.tup (.cons (.lit (.int 0)) (.cons (.lit (.int 1)) .nil))) .nil))) .nil)))
  .nil))
def f_law_one_rest : Fn := ⟨1, 3, b_law_one_rest⟩
def N_law_one_rest : List Str := ["_law_row", "_law_turn", "_law_book_here"]
/-- _law_walk (k09); id 107; slots 0:_law_book_here 1:_law_here 2:_law_found 3:_law_rows_here 4:_law_one -/
def b_law_walk_2 : Sms := (.cons (.par [2, 3] (.cons .emptyDict (.cons (.lst (.cons (.var 1) .nil)) .nil)))
  (.cons (.while (.cmp .ne (.var 3) (.lst .nil)) (.cons (.set 4 (.ix (.var 3) (.lit (.int 0))))
  (.cons (.set 3 (.sliceFrom (.var 3) (.lit (.int 1))))
  (.cons (.ifs (.cmp .notin (.var 4) (.var 2)) (.cons (.setIx 2 (.var 4) (.call 25 (.cons (.var 0) (.cons (.var 4) .nil))))
  (.cons (.set 3 (.bin .add (.var 3) (.ix (.var 2) (.var 4))))
  .nil)) .nil)
  .nil))))
  (.cons (.freeze 2)
  (.cons (.ret (.var 2))
  .nil))))
def f_law_walk_2 : Fn := ⟨2, 5, b_law_walk_2⟩
def N_law_walk_2 : List Str := ["_law_book_here", "_law_here", "_law_found", "_law_rows_here", "_law_one"]
/-- law (k09); id 108; slots 0:_law_script 1:_law_row 2:_law_most 3:_law_many 4:_law_told 5:_law_turn 6:_law_book_here 7:_law_rules 8:_law_here 9:_law_one 10:_law_other 11:_law_same 12:_law_parts 13:_law_k 14:_law_before 15:_law_after 16:_law_part -/
def b_law_k09 : Sms := (.cons (.newCell 1 0 [0, 10609, 0])
  (.cons (.par [6, 7] (.cons (.call 106 (.cons (.var 1) .nil)) (.cons (.lst .nil) .nil)))
  (.cons (.set 2 (.b1 .max (.bin .add (.lst (.cons (.lit (.int 0)) .nil)) (.comp0 (.b1 .len (.var 14)) (.t (.cons (.n 14) (.cons (.n 15) .nil))) (.val (.var 6)) [14, 15]))))
  (.cons (.for (.n 3) (.range2 (.lit (.int 2)) (.bin .add (.var 2) (.lit (.int 1)))) (.cons (.for (.n 8) (.val (.call 60 (.cons (.var 3) .nil))) (.cons (.set 12 (.comp0 (.call 18 (.cons (.bin .add (.sliceTo (.var 8) (.var 13)) (.sliceFrom (.var 8) (.bin .add (.var 13) (.lit (.int 1))))) .nil)) (.n 13) (.range1 (.var 3)) [13]))
  (.cons (.ifs (.and (.cmp .ne (.call 25 (.cons (.var 6) (.cons (.var 8) .nil))) (.lst .nil)) (.cmp .eq (.comp1 (.var 16) (.n 16) (.val (.var 12)) (.cmp .ne (.call 25 (.cons (.var 6) (.cons (.var 16) .nil))) (.lst .nil)) [16]) (.lst .nil))) (.cons (.append 7 (.tup (.cons (.var 8) (.cons (.ix (.call 28 (.cons (.call 107 (.cons (.var 6) (.cons (.var 8) .nil))) .nil)) (.lit (.int 0))) .nil))))
  .nil) .nil)
  .nil)))
  .nil))
  (.cons (.set 4 (.call 104 (.cons (.var 6) .nil)))
  (.cons (.ifs (.or (.not (.call 23 (.cons (.var 4) (.cons (.b1 .tuple (.b1 .sorted (.var 7))) .nil)))) (.or (.not (.call 49 (.cons (.var 4) .nil))) (.not (.call 91 (.cons (.var 4) .nil))))) (.cons (.ret (.lit (.bool false)))
  .nil) .nil)
  (.cons (.ifs (.cmp .ne (.call 104 (.cons (.var 4) .nil)) (.var 4)) (.cons (.ret (.lit (.bool false)))
  .nil) .nil)
  (.cons (.ifs (.or (.cmp .isnb (.call 105 (.cons (.var 6) (.cons (.var 4) .nil))) (.lit (.bool true))) (.cmp .gt (.b1 .len (.var 4)) (.b1 .len (.var 6)))) (.cons (.ret (.lit (.bool false)))
  .nil) .nil)
  (.cons (.for (.n 5) (.range1 (.lit (.int 3))) (.cons (.set 8 (.call 19 (.cons (.var 1) (.cons (.call 16 (.cons (.var 1) (.cons (.lit (.int 6)) .nil))) .nil))))
  (.cons (.set 9 (.call 28 (.cons (.call 107 (.cons (.var 4) (.cons (.var 8) .nil))) .nil)))
  (.cons (.ifs (.or (.cmp .ne (.var 9) (.call 28 (.cons (.call 107 (.cons (.var 6) (.cons (.var 8) .nil))) .nil))) (.cmp .ne (.var 9) (.lst (.cons (.call 98 (.cons (.var 4) (.cons (.var 8) .nil))) .nil)))) (.cons (.ret (.lit (.bool false)))
  .nil) .nil)
  .nil))))
  (.cons (.par [10, 11] (.cons (.call 106 (.cons (.var 1) .nil)) (.cons (.lit (.bool true)) .nil)))
  (.cons (.for (.n 3) (.val (.lst (.cons (.lit (.int 1)) (.cons (.lit (.int 2)) (.cons (.lit (.int 3)) .nil))))) (.cons (.for (.n 8) (.val (.call 60 (.cons (.var 3) .nil))) (.cons (.set 11 (.and (.var 11) (.cmp .eq (.call 28 (.cons (.call 107 (.cons (.var 6) (.cons (.var 8) .nil))) .nil)) (.call 28 (.cons (.call 107 (.cons (.var 10) (.cons (.var 8) .nil))) .nil)))))
  .nil))
  .nil))
  (.cons (.ret (.and (.call 23 (.cons (.call 105 (.cons (.var 6) (.cons (.var 10) .nil))) (.cons (.var 11) .nil))) (.cmp .eq (.call 105 (.cons (.var 10) (.cons (.var 6) .nil))) (.var 11))))
  .nil))))))))))))
def f_law_k09 : Fn := ⟨1, 17, b_law_k09⟩
def N_law_k09 : List Str := ["_law_script", "_law_row", "_law_most", "_law_many", "_law_told", "_law_turn", "_law_book_here", "_law_rules", "_law_here", "_law_one", "_law_other", "_law_same", "_law_parts", "_law_k", "_law_before", "_law_after", "_law_part"]
/-- at_rest (k10); id 109; slots 0:book 1:row -/
def b_at_rest : Sms := (.cons (.expr (.call 3 (.cons (.var 0) .nil)))
  (.cons (.expr (.call 4 (.cons (.var 1) (.cons (.glob "MOST_LENGTH" (.int 12)) .nil))))
  (.cons (.ret (.call 101 (.cons (.var 0) (.cons (.var 1) .nil))))
  .nil)))
def f_at_rest : Fn := ⟨2, 2, b_at_rest⟩
def N_at_rest : List Str := ["book", "row"]
/-- calm_count (k10); id 110; slots 0:book 1:many 2:row -/
def b_calm_count : Sms := (.cons (.expr (.call 3 (.cons (.var 0) .nil)))
  (.cons (.ifs (.not (.call 0 (.cons (.var 1) (.cons (.lit (.int 0)) (.cons (.glob "MOST_COUNTED" (.int 5)) .nil))))) (.cons .never
  .nil) .nil)
  (.cons (.ret (.b1 .len (.comp1 (.var 2) (.n 2) (.val (.call 58 (.cons (.var 1) .nil))) (.call 101 (.cons (.var 0) (.cons (.var 2) .nil))) [2])))
  .nil)))
def f_calm_count : Fn := ⟨2, 3, b_calm_count⟩
def N_calm_count : List Str := ["book", "many", "row"]
/-- only_calm (k10); id 111; slots 0:book 1:other 2:found 3:before 4:after -/
def b_only_calm : Sms := (.cons (.expr (.call 3 (.cons (.var 0) .nil)))
  (.cons (.expr (.call 3 (.cons (.var 1) .nil)))
  (.cons (.set 2 (.comp1 (.tup (.cons (.b1 .len (.var 3)) (.cons (.var 3) .nil))) (.t (.cons (.n 3) (.cons (.n 4) .nil))) (.val (.var 1)) (.call 101 (.cons (.var 0) (.cons (.var 3) .nil))) [3, 4]))
  (.cons (.ret (.ite (.cmp .ne (.var 2) (.lst .nil)) (.ix (.b1 .min (.var 2)) (.lit (.int 1))) (.lit .none)))
  .nil))))
def f_only_calm : Fn := ⟨2, 5, b_only_calm⟩
def N_only_calm : List Str := ["book", "other", "found", "before", "after"]
/-- law (k10); id 112; slots 0:_law_script 1:_law_row 2:_law_calm 3:_law_some 4:_law_book_here 5:_law_other 6:_law_here 7:_law_many 8:_law_one 9:_law_before 10:_law_after -/
def b_law_k10 : Sms := (.cons (.newCell 1 0 [0, 10610, 0])
  (.cons (.par [4, 5] (.cons (.call 22 (.cons (.var 1) (.cons (.lit (.int 4)) .nil))) (.cons (.call 22 (.cons (.var 1) (.cons (.lit (.int 4)) .nil))) .nil)))
  (.cons (.par [6, 7] (.cons (.call 19 (.cons (.var 1) (.cons (.call 16 (.cons (.var 1) (.cons (.lit (.int 8)) .nil))) .nil))) (.cons (.call 16 (.cons (.var 1) (.cons (.lit (.int 6)) .nil))) .nil)))
  (.cons (.ifs (.not (.call 23 (.cons (.call 109 (.cons (.var 4) (.cons (.var 6) .nil))) (.cons (.cmp .eq (.call 25 (.cons (.var 4) (.cons (.var 6) .nil))) (.lst .nil)) .nil)))) (.cons (.ret (.lit (.bool false)))
  .nil) .nil)
  (.cons (.set 2 (.comp1 (.var 8) (.n 8) (.val (.call 60 (.cons (.var 7) .nil))) (.cmp .eq (.call 25 (.cons (.var 4) (.cons (.var 8) .nil))) (.lst .nil)) [8]))
  (.cons (.ifs (.not (.call 23 (.cons (.call 110 (.cons (.var 4) (.cons (.var 7) .nil))) (.cons (.b1 .len (.var 2)) .nil)))) (.cons (.ret (.lit (.bool false)))
  .nil) .nil)
  (.cons (.set 3 (.comp1 (.tup (.cons (.b1 .len (.var 9)) (.cons (.var 9) .nil))) (.t (.cons (.n 9) (.cons (.n 10) .nil))) (.val (.var 5)) (.cmp .eq (.call 25 (.cons (.var 4) (.cons (.var 9) .nil))) (.lst .nil)) [9, 10]))
  (.cons (.ifs (.not (.call 23 (.cons (.call 111 (.cons (.var 4) (.cons (.var 5) .nil))) (.cons (.ite (.cmp .ne (.var 3) (.lst .nil)) (.ix (.b1 .min (.var 3)) (.lit (.int 1))) (.lit .none)) .nil)))) (.cons (.ret (.lit (.bool false)))
  .nil) .nil)
  (.cons (.ret (.or (.cmp .ne (.var 3) (.lst .nil)) (.cmp .eq (.comp1 (.var 8) (.n 8) (.val (.var 2)) (.cmp .ne (.call 25 (.cons (.var 5) (.cons (.var 8) .nil))) (.lst .nil)) [8]) (.lst .nil))))
  .nil)))))))))
def f_law_k10 : Fn := ⟨1, 11, b_law_k10⟩
def N_law_k10 : List Str := ["_law_script", "_law_row", "_law_calm", "_law_some", "_law_book_here", "_law_other", "_law_here", "_law_many", "_law_one", "_law_before", "_law_after"]
/-- first_tableau (k11); id 113; slots 0:columns 1:goal 2:at 3:costs 4:row 5:height 6:rows 7:turn 8:signs 9:k 10:cost 11:one -/
def b_first_tableau_2 : Sms := (.cons (.par [5, 6] (.cons (.b1 .len (.var 1)) (.cons (.lst .nil) .nil)))
  (.cons (.for (.n 2) (.range1 (.var 5)) (.cons (.set 7 (.ite (.cmp .lt (.ix (.var 1) (.var 2)) (.lit (.int 0))) (.neg (.lit (.int 1))) (.lit (.int 1))))
  (.cons (.set 8 (.comp0 (.tup (.cons (.b1 .int (.cmp .eq (.var 9) (.var 2))) (.cons (.lit (.int 1)) .nil))) (.n 9) (.range1 (.var 5)) [9]))
  (.cons (.append 6 (.bin .add (.bin .add (.comp0 (.tup (.cons (.bin .mul (.var 7) (.ix (.var 11) (.var 2))) (.cons (.lit (.int 1)) .nil))) (.n 11) (.val (.var 0)) [11]) (.var 8)) (.lst (.cons (.tup (.cons (.bin .mul (.var 7) (.ix (.var 1) (.var 2))) (.cons (.lit (.int 1)) .nil))) .nil))))
  .nil))))
  (.cons (.set 3 (.bin .mul (.lst (.cons (.tup (.cons (.lit (.int 0)) (.cons (.lit (.int 1)) .nil))) .nil)) (.bin .add (.bin .add (.b1 .len (.var 0)) (.var 5)) (.lit (.int 1)))))
  (.cons (.freeze 6)
  (.cons (.for (.n 4) (.val (.var 6)) (.cons (.set 3 (.comp0 (.call 65 (.cons (.var 10) (.cons (.ix (.var 4) (.var 2)) .nil))) (.t (.cons (.n 2) (.cons (.n 10) .nil))) (.enum (.var 3)) [2, 10]))
  .nil))
  (.cons (.for (.n 2) (.range1 (.var 5)) (.cons (.setIx 3 (.bin .add (.b1 .len (.var 0)) (.var 2)) (.tup (.cons (.lit (.int 0)) (.cons (.lit (.int 1)) .nil))))
  .nil))
  (.cons (.freeze 6)
  (.cons (.freeze 3)
  (.cons (.ret (.tup (.cons (.var 6) (.cons (.var 3) (.cons (.comp0 (.bin .add (.b1 .len (.var 0)) (.var 2)) (.n 2) (.range1 (.var 5)) [2]) .nil)))))
  .nil)))))))))
def f_first_tableau_2 : Fn := ⟨2, 12, b_first_tableau_2⟩
def N_first_tableau_2 : List Str := ["columns", "goal", "at", "costs", "row", "height", "rows", "turn", "signs", "k", "cost", "one"]
/-- solve (k11); id 114; slots 0:columns 1:goal 2:told 3:rows 4:costs 5:basis 6:some 7:found 8:at 9:one 10:column -/
def b_solve_2 : Sms := (.cons (.setT (.cons (.n 3) (.cons (.n 4) (.cons (.n 5) .nil))) (.call 113 (.cons (.var 0) (.cons (.var 1) .nil))))
  (.cons (.while (.lit (.bool true)) (.cons (.set 6 (.comp1 (.var 8) (.n 8) (.range1 (.b1 .len (.var 0))) (.call 68 (.cons (.ix (.var 4) (.var 8)) (.cons (.tup (.cons (.lit (.int 0)) (.cons (.lit (.int 1)) .nil))) .nil))) [8]))
  (.cons (.ifs (.cmp .eq (.var 6) (.lst .nil)) (.cons .brk
  .nil) .nil)
  (.cons (.setT (.cons (.n 3) (.cons (.n 4) (.cons (.n 5) .nil))) (.call 72 (.cons (.var 3) (.cons (.var 4) (.cons (.var 5) (.cons (.call 73 (.cons (.var 3) (.cons (.var 5) (.cons (.ix (.var 6) (.lit (.int 0))) .nil)))) (.cons (.ix (.var 6) (.lit (.int 0))) .nil)))))))
  .nil))))
  (.cons (.ifs (.cmp .eq (.ix (.ix (.var 4) (.neg (.lit (.int 1)))) (.lit (.int 0))) (.lit (.int 0))) (.cons (.set 7 (.bin .mul (.lst (.cons (.tup (.cons (.lit (.int 0)) (.cons (.lit (.int 1)) .nil))) .nil)) (.b1 .len (.var 0))))
  (.cons (.for (.t (.cons (.n 8) (.cons (.n 10) .nil))) (.enum (.var 5)) (.cons (.ifs (.cmp .lt (.var 10) (.b1 .len (.var 0))) (.cons (.setIx 7 (.var 10) (.ix (.ix (.var 3) (.var 8)) (.neg (.lit (.int 1)))))
  .nil) .nil)
  .nil))
  (.cons (.freeze 7)
  (.cons (.ret (.tup (.cons (.var 7) (.cons (.lit .none) .nil))))
  .nil)))) .nil)
  (.cons (.set 2 (.lst .nil))
  (.cons (.for (.t (.cons (.n 8) (.cons (.n 9) .nil))) (.enum (.var 1)) (.cons (.append 2 (.call 66 (.cons (.tup (.cons (.ite (.cmp .lt (.var 9) (.lit (.int 0))) (.neg (.lit (.int 1))) (.lit (.int 1))) (.cons (.lit (.int 1)) .nil))) (.cons (.call 65 (.cons (.tup (.cons (.lit (.int 1)) (.cons (.lit (.int 1)) .nil))) (.cons (.ix (.var 4) (.bin .add (.b1 .len (.var 0)) (.var 8))) .nil))) .nil))))
  .nil))
  (.cons (.freeze 2)
  (.cons (.ret (.tup (.cons (.lit .none) (.cons (.var 2) .nil))))
  .nil)))))))
def f_solve_2 : Fn := ⟨2, 11, b_solve_2⟩
def N_solve_2 : List Str := ["columns", "goal", "told", "rows", "costs", "basis", "some", "found", "at", "one", "column"]
/-- lot_in (k11); id 115; slots 0:book 1:size 2:deeds 3:columns 4:multiples 5:told 6:deed 7:many -/
def b_lot_in_2 : Sms := (.cons (.for (.n 1) (.range2 (.lit (.int 2)) (.bin .add (.glob "MOST_GRID" (.int 4)) (.lit (.int 1)))) (.cons (.set 2 (.call 75 (.cons (.var 0) (.cons (.var 1) .nil))))
  (.cons (.set 3 (.comp0 (.bin .add (.call 76 (.cons (.var 0) (.cons (.var 1) (.cons (.var 6) .nil)))) (.lst (.cons (.lit (.int 1)) .nil))) (.n 6) (.val (.var 2)) [6]))
  (.cons (.freeze 3)
  (.cons (.set 4 (.ix (.call 114 (.cons (.var 3) (.cons (.bin .add (.bin .mul (.lst (.cons (.lit (.int 0)) .nil)) (.bin .mul (.var 1) (.var 1))) (.lst (.cons (.lit (.int 1)) .nil))) .nil))) (.lit (.int 0))))
  (.cons (.ifs (.notNone (.var 4)) (.cons (.set 5 (.call 69 (.cons (.var 4) .nil)))
  (.cons (.ret (.tup (.cons (.var 1) (.cons (.b1 .tuple (.comp1 (.bin .add (.var 6) (.tup (.cons (.var 7) .nil))) (.t (.cons (.n 6) (.cons (.n 7) .nil))) (.zip (.var 2) (.var 5)) (.cmp .gt (.var 7) (.lit (.int 0))) [6, 7])) .nil))))
  .nil)) .nil)
  .nil))))))
  (.cons (.ret (.lit .none))
  .nil))
def f_lot_in_2 : Fn := ⟨1, 8, b_lot_in_2⟩
def N_lot_in_2 : List Str := ["book", "size", "deeds", "columns", "multiples", "told", "deed", "many"]
/-- lot (k11); id 116; slots 0:book -/
def b_lot_2 : Sms := (.cons (.expr (.call 3 (.cons (.var 0) .nil)))
  (.cons (.ret (.ite (.cmp .ne (.call 47 (.cons (.var 0) .nil)) (.tup .nil)) (.lit .none) (.call 115 (.cons (.var 0) .nil))))
  .nil))
def f_lot_2 : Fn := ⟨1, 1, b_lot_2⟩
def N_lot_2 : List Str := ["book"]
/-- shows_lot (k11); id 117; slots 0:book 1:value -/
def b_shows_lot_2 : Sms := (.cons (.expr (.call 3 (.cons (.var 0) .nil)))
  (.cons (.ifs (.isNone (.var 1)) (.cons (.ret (.or (.cmp .ne (.call 47 (.cons (.var 0) .nil)) (.tup .nil)) (.isNone (.call 115 (.cons (.var 0) .nil)))))
  .nil) .nil)
  (.cons (.ret (.and (.cmp .eq (.call 47 (.cons (.var 0) .nil)) (.tup .nil)) (.call 80 (.cons (.var 0) (.cons (.var 1) .nil)))))
  .nil)))
def f_shows_lot_2 : Fn := ⟨2, 2, b_shows_lot_2⟩
def N_shows_lot_2 : List Str := ["book", "value"]
/-- law (k11); id 118; slots 0:_law_script 1:_law_row 2:_law_found 3:_law_due 4:_law_good 5:_law_value 6:_law_two 7:_law_sorts 8:_law_back 9:_law_both -/
def b_law_k11 : Sms := (.cons (.newCell 1 0 [0, 10611, 0])
  (.cons (.par [7, 8, 9] (.cons (.call 38 (.cons (.lit (.str "10>01")) .nil)) (.cons (.call 38 (.cons (.lit (.str " 01>10 ")) .nil)) (.cons (.call 38 (.cons (.lit (.str "01>10  10>01")) .nil)) .nil))))
  (.cons (.set 2 (.lst (.cons (.var 7) (.cons (.call 34 (.cons (.var 9) .nil)) (.cons (.call 9 (.cons (.var 7) (.cons (.tup (.cons (.lit (.int 1)) (.cons (.lit (.int 0)) (.cons (.lit (.int 0)) .nil)))) .nil))) (.cons (.call 11 (.cons (.var 7) (.cons (.tup (.cons (.lit (.int 1)) (.cons (.lit (.int 0)) .nil))) .nil))) .nil))))))
  (.cons (.set 2 (.bin .add (.var 2) (.lst (.cons (.call 12 (.cons (.var 7) (.cons (.tup (.cons (.lit (.int 1)) (.cons (.lit (.int 1)) (.cons (.lit (.int 0)) .nil)))) .nil))) (.cons (.call 15 (.cons (.var 7) (.cons (.tup (.cons (.lit (.int 2)) (.cons (.lit (.int 1)) (.cons (.lit (.int 0)) .nil)))) .nil))) (.cons (.call 14 (.cons (.var 9) (.cons (.tup (.cons (.lit (.int 0)) (.cons (.lit (.int 1)) .nil))) .nil))) .nil))))))
  (.cons (.set 2 (.bin .add (.var 2) (.lst (.cons (.call 59 (.cons (.var 9) (.cons (.lit (.int 2)) .nil))) .nil))))
  (.cons (.set 3 (.lst (.cons (.tup (.cons (.tup (.cons (.tup (.cons (.lit (.int 1)) (.cons (.lit (.int 0)) .nil))) (.cons (.tup (.cons (.lit (.int 0)) (.cons (.lit (.int 1)) .nil))) .nil))) .nil)) (.cons (.lit (.str "01>10 10>01")) (.cons (.tup (.cons (.tup (.cons (.lit (.int 0)) (.cons (.lit (.int 0)) (.cons (.lit (.int 1)) .nil)))) (.cons (.tup (.cons (.lit (.int 0)) (.cons (.lit (.int 1)) (.cons (.lit (.int 0)) .nil)))) .nil))) (.cons (.lst (.cons (.tup (.cons (.lit (.int 0)) (.cons (.lit (.int 1)) .nil))) (.cons (.tup (.cons (.lit (.int 1)) (.cons (.lit (.int 0)) .nil))) .nil))) (.cons (.lst (.cons (.tup (.cons (.lit (.int 0)) (.cons (.lit (.int 1)) (.cons (.lit (.int 1)) .nil)))) .nil)) (.cons (.lit (.int 3)) (.cons (.lit (.bool true)) .nil)))))))))
  (.cons (.set 3 (.bin .add (.var 3) (.lst (.cons (.tup (.cons (.lit (.int 0)) (.cons (.lit (.int 1)) .nil))) .nil))))
  (.cons (.freeze 2)
  (.cons (.freeze 3)
  (.cons (.ifs (.not (.call 23 (.cons (.var 2) (.cons (.var 3) .nil)))) (.cons (.ret (.lit (.bool false)))
  .nil) .nil)
  (.cons (.set 4 (.tup (.cons (.tup (.cons (.lit (.str "first")) (.cons (.neg (.lit (.int 1))) .nil))) (.cons (.tup (.cons (.lit (.str "last")) (.cons (.lit (.int 1)) .nil))) (.cons (.tup (.cons (.lit (.str "least first")) (.cons (.neg (.lit (.int 1))) .nil))) (.cons (.tup (.cons (.lit (.str "least last")) (.cons (.neg (.lit (.int 1))) .nil))) (.cons (.tup (.cons (.lit (.str "greatest first")) (.cons (.lit (.int 1)) .nil))) (.cons (.tup (.cons (.lit (.str "greatest last")) (.cons (.lit (.int 1)) .nil))) .nil))))))))
  (.cons (.set 2 (.lst (.cons (.call 46 (.cons (.ix (.var 7) (.lit (.int 0))) .nil)) (.cons (.call 48 (.cons (.var 7) .nil)) (.cons (.call 48 (.cons (.var 9) .nil)) (.cons (.call 49 (.cons (.var 9) .nil)) (.cons (.call 51 (.cons (.ix (.var 7) (.lit (.int 0))) .nil)) .nil)))))))
  (.cons (.set 2 (.bin .add (.var 2) (.lst (.cons (.call 51 (.cons (.tup (.cons (.tup (.cons (.lit (.int 0)) (.cons (.lit (.int 2)) (.cons (.lit (.int 1)) .nil)))) (.cons (.tup (.cons (.lit (.int 2)) (.cons (.lit (.int 1)) (.cons (.lit (.int 0)) .nil)))) .nil))) .nil)) (.cons (.call 46 (.cons (.tup (.cons (.tup (.cons (.lit (.int 0)) (.cons (.lit (.int 1)) (.cons (.lit (.int 1)) .nil)))) (.cons (.tup (.cons (.lit (.int 1)) (.cons (.lit (.int 1)) (.cons (.lit (.int 0)) .nil)))) .nil))) .nil)) .nil)))))
  (.cons (.set 3 (.lst (.cons (.tup (.cons (.neg (.lit (.int 1))) (.cons (.lit (.int 1)) (.cons (.neg (.lit (.int 1))) (.cons (.neg (.lit (.int 1))) (.cons (.lit (.int 1)) (.cons (.lit (.int 1)) .nil))))))) (.cons (.var 4) (.cons (.tup .nil) (.cons (.lit (.bool false)) (.cons (.tup (.cons (.tup (.cons (.lit (.int 1)) .nil)) .nil)) (.cons (.tup (.cons (.tup (.cons (.neg (.lit (.int 1))) (.cons (.neg (.lit (.int 1))) .nil))) (.cons (.tup (.cons (.neg (.lit (.int 1))) (.cons (.lit (.int 0)) .nil))) .nil))) (.cons (.tup (.cons (.lit (.int 1)) (.cons (.neg (.lit (.int 1))) (.cons (.lit (.int 1)) (.cons (.lit (.int 1)) (.cons (.neg (.lit (.int 1))) (.cons (.neg (.lit (.int 1))) .nil))))))) .nil)))))))))
  (.cons (.freeze 2)
  (.cons (.freeze 3)
  (.cons (.ifs (.or (.not (.call 23 (.cons (.var 2) (.cons (.var 3) .nil)))) (.or (.cmp .ne (.b1 .len (.call 48 (.cons (.tup .nil) .nil))) (.lit (.int 12))) (.cmp .ne (.ix (.call 48 (.cons (.tup .nil) .nil)) (.lit (.int 0))) (.tup (.cons (.lit (.str "first")) (.cons (.neg (.lit (.int 1))) .nil)))))) (.cons (.ret (.lit (.bool false)))
  .nil) .nil)
  (.cons (.ifs (.cmp .ne (.ix (.call 48 (.cons (.tup .nil) .nil)) (.lit (.int 11))) (.tup (.cons (.lit (.str "greatest last")) (.cons (.lit (.int 1)) .nil)))) (.cons (.ret (.lit (.bool false)))
  .nil) .nil)
  (.cons (.set 2 (.lst (.cons (.call 46 (.cons (.tup (.cons (.tup (.cons (.lit (.int 0)) (.cons (.lit (.int 1)) (.cons (.lit (.int 0)) (.cons (.lit (.int 1)) .nil))))) (.cons (.tup (.cons (.lit (.int 1)) (.cons (.lit (.int 0)) (.cons (.lit (.int 1)) (.cons (.lit (.int 0)) .nil))))) .nil))) .nil)) (.cons (.call 51 (.cons (.tup (.cons (.tup (.cons (.lit (.int 0)) (.cons (.lit (.int 1)) (.cons (.lit (.int 0)) (.cons (.lit (.int 1)) .nil))))) (.cons (.tup (.cons (.lit (.int 1)) (.cons (.lit (.int 0)) (.cons (.lit (.int 1)) (.cons (.lit (.int 0)) .nil))))) .nil))) .nil)) .nil))))
  (.cons (.set 2 (.bin .add (.var 2) (.lst (.cons (.call 46 (.cons (.tup (.cons (.tup (.cons (.lit (.int 1)) (.cons (.lit (.int 0)) (.cons (.lit (.int 0)) (.cons (.lit (.int 1)) .nil))))) (.cons (.tup (.cons (.lit (.int 0)) (.cons (.lit (.int 1)) (.cons (.lit (.int 1)) (.cons (.lit (.int 0)) .nil))))) .nil))) .nil)) .nil))))
  (.cons (.freeze 2)
  (.cons (.ifs (.not (.call 23 (.cons (.var 2) (.cons (.lst (.cons (.tup (.cons (.lit (.int 1)) (.cons (.neg (.lit (.int 1))) (.cons (.lit (.int 1)) (.cons (.lit (.int 1)) (.cons (.neg (.lit (.int 1))) (.cons (.neg (.lit (.int 1))) .nil))))))) (.cons (.tup (.cons (.tup (.cons (.neg (.lit (.int 1))) .nil)) (.cons (.tup (.cons (.lit (.int 0)) .nil)) (.cons (.tup (.cons (.neg (.lit (.int 1))) .nil)) .nil)))) (.cons (.tup (.cons (.neg (.lit (.int 1))) (.cons (.neg (.lit (.int 1))) (.cons (.neg (.lit (.int 1))) (.cons (.lit (.int 1)) (.cons (.lit (.int 1)) (.cons (.neg (.lit (.int 1))) .nil))))))) .nil)))) .nil)))) (.cons (.ret (.lit (.bool false)))
  .nil) .nil)
  (.cons (.set 2 (.lst (.cons (.call 52 (.cons (.var 7) .nil)) (.cons (.call 52 (.cons (.var 9) .nil)) (.cons (.call 52 (.cons (.tup .nil) .nil)) (.cons (.call 52 (.cons (.var 8) .nil)) (.cons (.call 52 (.cons (.call 38 (.cons (.lit (.str "021>102")) .nil)) .nil)) .nil)))))))
  (.cons (.set 2 (.bin .add (.var 2) (.lst (.cons (.call 52 (.cons (.call 38 (.cons (.lit (.str "0110>1001")) .nil)) .nil)) (.cons (.call 52 (.cons (.call 38 (.cons (.lit (.str "0123>2103")) .nil)) .nil)) .nil)))))
  (.cons (.freeze 2)
  (.cons (.ifs (.not (.call 23 (.cons (.var 2) (.cons (.lst (.cons (.lit (.str "square")) (.cons (.lit (.str "endless")) (.cons (.lit (.str "none")) (.cons (.lit (.str "square")) (.cons (.lit (.str "greater")) (.cons (.lit (.str "greater")) (.cons (.lit (.str "square")) .nil)))))))) .nil)))) (.cons (.ret (.lit (.bool false)))
  .nil) .nil)
  (.cons (.set 5 (.tup (.cons (.lit (.int 2)) (.cons (.tup (.cons (.tup (.cons (.lit (.int 0)) (.cons (.tup (.cons (.lit (.int 0)) (.cons (.lit (.int 1)) .nil))) (.cons (.tup (.cons (.lit (.int 0)) (.cons (.lit (.int 1)) .nil))) (.cons (.lit (.int 1)) .nil))))) (.cons (.tup (.cons (.lit (.int 1)) (.cons (.tup (.cons (.lit (.int 0)) (.cons (.lit (.int 1)) .nil))) (.cons (.tup (.cons (.lit (.int 0)) (.cons (.lit (.int 1)) .nil))) (.cons (.lit (.int 1)) .nil))))) .nil))) .nil))))
  (.cons (.set 2 (.lst (.cons (.call 117 (.cons (.var 9) (.cons (.var 5) .nil))) (.cons (.call 117 (.cons (.var 9) (.cons (.lit .none) .nil))) (.cons (.call 116 (.cons (.var 7) .nil)) (.cons (.call 117 (.cons (.var 7) (.cons (.var 5) .nil))) .nil))))))
  (.cons (.set 2 (.bin .add (.var 2) (.lst (.cons (.call 117 (.cons (.var 9) (.cons (.call 116 (.cons (.var 9) .nil)) .nil))) (.cons (.ix (.call 116 (.cons (.var 9) .nil)) (.lit (.int 0))) .nil)))))
  (.cons (.freeze 2)
  (.cons (.ifs (.not (.call 23 (.cons (.var 2) (.cons (.lst (.cons (.lit (.bool true)) (.cons (.lit (.bool false)) (.cons (.lit .none) (.cons (.lit (.bool false)) (.cons (.lit (.bool true)) (.cons (.lit (.int 2)) .nil))))))) .nil)))) (.cons (.ret (.lit (.bool false)))
  .nil) .nil)
  (.cons (.set 2 (.lst (.cons (.call 91 (.cons (.var 7) .nil)) (.cons (.call 90 (.cons (.var 7) .nil)) (.cons (.call 98 (.cons (.var 7) (.cons (.tup (.cons (.lit (.int 2)) (.cons (.lit (.int 1)) (.cons (.lit (.int 0)) (.cons (.lit (.int 1)) .nil))))) .nil))) (.cons (.call 104 (.cons (.var 7) .nil)) .nil))))))
  (.cons (.set 2 (.bin .add (.var 2) (.lst (.cons (.call 105 (.cons (.var 7) (.cons (.call 38 (.cons (.lit (.str "10>01 210>012")) .nil)) .nil))) (.cons (.call 105 (.cons (.var 7) (.cons (.var 8) .nil))) .nil)))))
  (.cons (.freeze 2)
  (.cons (.ifs (.not (.call 23 (.cons (.var 2) (.cons (.lst (.cons (.lit (.bool true)) (.cons (.lit .none) (.cons (.tup (.cons (.lit (.int 0)) (.cons (.lit (.int 1)) (.cons (.lit (.int 1)) (.cons (.lit (.int 2)) .nil))))) (.cons (.var 7) (.cons (.lit (.bool true)) (.cons (.lit (.bool false)) .nil))))))) .nil)))) (.cons (.ret (.lit (.bool false)))
  .nil) .nil)
  (.cons (.set 6 (.call 38 (.cons (.lit (.str "210>012 210>021")) .nil)))
  (.cons (.set 2 (.lst (.cons (.call 91 (.cons (.var 6) .nil)) (.cons (.call 90 (.cons (.var 6) .nil)) (.cons (.call 109 (.cons (.var 6) (.cons (.tup (.cons (.lit (.int 2)) (.cons (.lit (.int 0)) (.cons (.lit (.int 1)) .nil)))) .nil))) (.cons (.call 109 (.cons (.var 6) (.cons (.tup (.cons (.lit (.int 2)) (.cons (.lit (.int 2)) (.cons (.lit (.int 0)) (.cons (.lit (.int 1)) .nil))))) .nil))) .nil))))))
  (.cons (.set 2 (.bin .add (.var 2) (.lst (.cons (.call 109 (.cons (.var 6) (.cons (.tup (.cons (.lit (.int 2)) (.cons (.lit (.int 1)) (.cons (.lit (.int 1)) (.cons (.lit (.int 0)) .nil))))) .nil))) (.cons (.call 110 (.cons (.var 6) (.cons (.lit (.int 3)) .nil))) (.cons (.call 110 (.cons (.var 7) (.cons (.lit (.int 4)) .nil))) .nil))))))
  (.cons (.set 2 (.bin .add (.var 2) (.lst (.cons (.call 111 (.cons (.var 7) (.cons (.var 6) .nil))) (.cons (.call 111 (.cons (.var 6) (.cons (.var 7) .nil))) .nil)))))
  (.cons (.freeze 2)
  (.cons (.ifs (.not (.call 23 (.cons (.var 2) (.cons (.lst (.cons (.lit (.bool false)) (.cons (.tup (.cons (.tup (.cons (.lit (.int 2)) (.cons (.lit (.int 1)) (.cons (.lit (.int 0)) .nil)))) (.cons (.tup (.cons (.lit (.int 0)) (.cons (.lit (.int 1)) (.cons (.lit (.int 2)) .nil)))) (.cons (.tup (.cons (.lit (.int 0)) (.cons (.lit (.int 2)) (.cons (.lit (.int 1)) .nil)))) .nil)))) (.cons (.lit (.bool true)) (.cons (.lit (.bool true)) (.cons (.lit (.bool false)) (.cons (.lit (.int 12)) (.cons (.lit (.int 8)) (.cons (.lit .none) (.cons (.tup (.cons (.lit (.int 1)) (.cons (.lit (.int 0)) .nil))) .nil)))))))))) .nil)))) (.cons (.ret (.lit (.bool false)))
  .nil) .nil)
  (.cons (.set 2 (.lst (.cons (.call 30 (.cons (.var 7) .nil)) (.cons (.call 31 (.cons (.var 7) .nil)) (.cons (.call 31 (.cons (.call 38 (.cons (.lit (.str "001>100")) .nil)) .nil)) (.cons (.call 32 (.cons (.var 7) .nil)) (.cons (.call 33 (.cons (.var 7) (.cons (.var 8) .nil))) .nil)))))))
  (.cons (.freeze 2)
  (.cons (.ret (.call 23 (.cons (.var 2) (.cons (.lst (.cons (.var 8) (.cons (.var 8) (.cons (.call 38 (.cons (.lit (.str "110>011")) .nil)) (.cons (.var 8) (.cons (.var 9) .nil)))))) .nil))))
  .nil))))))))))))))))))))))))))))))))))))))))))))
def f_law_k11 : Fn := ⟨1, 10, b_law_k11⟩
def N_law_k11 : List Str := ["_law_script", "_law_row", "_law_found", "_law_due", "_law_good", "_law_value", "_law_two", "_law_sorts", "_law_back", "_law_both"]
def f_law_bad_values : Fn := ⟨0, 0, .nil⟩ -- not carried: dict display
def f_law_error1 : Fn := ⟨0, 0, .nil⟩ -- not carried: Try
def f_law_refused : Fn := ⟨0, 0, .nil⟩ -- not carried: Lambda
def f_law_k12 : Fn := ⟨0, 0, .nil⟩ -- not carried: Lambda
/-- solve (k13); id 123; slots 0:columns 1:goal 2:told 3:rows 4:costs 5:basis 6:some 7:found 8:at 9:one 10:column -/
def b_solve_3 : Sms := (.cons (.setT (.cons (.n 3) (.cons (.n 4) (.cons (.n 5) .nil))) (.call 70 (.cons (.var 0) (.cons (.var 1) .nil))))
  (.cons (.while (.lit (.bool true)) (.cons (.set 6 (.comp1 (.var 8) (.n 8) (.range1 (.b1 .len (.var 0))) (.call 68 (.cons (.ix (.var 4) (.var 8)) (.cons (.tup (.cons (.lit (.int 0)) (.cons (.lit (.int 1)) .nil))) .nil))) [8]))
  (.cons (.ifs (.cmp .eq (.var 6) (.lst .nil)) (.cons .brk
  .nil) .nil)
  (.cons (.setT (.cons (.n 3) (.cons (.n 4) (.cons (.n 5) .nil))) (.call 72 (.cons (.var 3) (.cons (.var 4) (.cons (.var 5) (.cons (.call 73 (.cons (.var 3) (.cons (.var 5) (.cons (.ix (.var 6) (.lit (.int 0))) .nil)))) (.cons (.ix (.var 6) (.lit (.int 0))) .nil)))))))
  .nil))))
  (.cons (.ifs (.cmp .eq (.ix (.ix (.var 4) (.neg (.lit (.int 1)))) (.lit (.int 0))) (.lit (.int 0))) (.cons (.set 7 (.bin .mul (.lst (.cons (.tup (.cons (.lit (.int 0)) (.cons (.lit (.int 1)) .nil))) .nil)) (.b1 .len (.var 0))))
  (.cons (.for (.t (.cons (.n 8) (.cons (.n 10) .nil))) (.enum (.var 5)) (.cons (.ifs (.cmp .lt (.var 10) (.b1 .len (.var 0))) (.cons (.setIx 7 (.var 10) (.ix (.ix (.var 3) (.var 8)) (.neg (.lit (.int 1)))))
  .nil) .nil)
  .nil))
  (.cons (.freeze 7)
  (.cons (.ret (.tup (.cons (.var 7) (.cons (.lit .none) .nil))))
  .nil)))) .nil)
  (.cons (.set 2 (.lst .nil))
  (.cons (.for (.t (.cons (.n 8) (.cons (.n 9) .nil))) (.enum (.var 1)) (.cons (.append 2 (.call 66 (.cons (.tup (.cons (.ite (.cmp .lt (.var 9) (.lit (.int 0))) (.neg (.lit (.int 1))) (.lit (.int 1))) (.cons (.lit (.int 1)) .nil))) (.cons (.call 65 (.cons (.tup (.cons (.lit (.int 1)) (.cons (.lit (.int 1)) .nil))) (.cons (.ix (.var 4) (.bin .add (.b1 .len (.var 0)) (.var 8))) .nil))) .nil))))
  .nil))
  (.cons (.freeze 2)
  (.cons (.ret (.tup (.cons (.lit .none) (.cons (.var 2) .nil))))
  .nil)))))))
def f_solve_3 : Fn := ⟨2, 11, b_solve_3⟩
def N_solve_3 : List Str := ["columns", "goal", "told", "rows", "costs", "basis", "some", "found", "at", "one", "column"]
/-- lot_in (k13); id 124; slots 0:book 1:size 2:deeds 3:columns 4:multiples 5:told 6:deed 7:many -/
def b_lot_in_3 : Sms := (.cons (.for (.n 1) (.range2 (.lit (.int 2)) (.bin .add (.glob "MOST_GRID" (.int 4)) (.lit (.int 1)))) (.cons (.set 2 (.call 75 (.cons (.var 0) (.cons (.var 1) .nil))))
  (.cons (.set 3 (.comp0 (.bin .add (.call 76 (.cons (.var 0) (.cons (.var 1) (.cons (.var 6) .nil)))) (.lst (.cons (.lit (.int 1)) .nil))) (.n 6) (.val (.var 2)) [6]))
  (.cons (.freeze 3)
  (.cons (.set 4 (.ix (.call 123 (.cons (.var 3) (.cons (.bin .add (.bin .mul (.lst (.cons (.lit (.int 0)) .nil)) (.bin .mul (.var 1) (.var 1))) (.lst (.cons (.lit (.int 1)) .nil))) .nil))) (.lit (.int 0))))
  (.cons (.ifs (.notNone (.var 4)) (.cons (.set 5 (.call 69 (.cons (.var 4) .nil)))
  (.cons (.ret (.tup (.cons (.var 1) (.cons (.b1 .tuple (.comp1 (.bin .add (.var 6) (.tup (.cons (.var 7) .nil))) (.t (.cons (.n 6) (.cons (.n 7) .nil))) (.zip (.var 2) (.var 5)) (.cmp .gt (.var 7) (.lit (.int 0))) [6, 7])) .nil))))
  .nil)) .nil)
  .nil))))))
  (.cons (.ret (.lit .none))
  .nil))
def f_lot_in_3 : Fn := ⟨1, 8, b_lot_in_3⟩
def N_lot_in_3 : List Str := ["book", "size", "deeds", "columns", "multiples", "told", "deed", "many"]
/-- lot (k13); id 125; slots 0:book -/
def b_lot_3 : Sms := (.cons (.expr (.call 3 (.cons (.var 0) .nil)))
  (.cons (.ret (.ite (.cmp .ne (.call 47 (.cons (.var 0) .nil)) (.tup .nil)) (.lit .none) (.call 124 (.cons (.var 0) .nil))))
  .nil))
def f_lot_3 : Fn := ⟨1, 1, b_lot_3⟩
def N_lot_3 : List Str := ["book"]
/-- shows_lot (k13); id 126; slots 0:book 1:value -/
def b_shows_lot_3 : Sms := (.cons (.expr (.call 3 (.cons (.var 0) .nil)))
  (.cons (.ifs (.isNone (.var 1)) (.cons (.ret (.or (.cmp .ne (.call 47 (.cons (.var 0) .nil)) (.tup .nil)) (.isNone (.call 124 (.cons (.var 0) .nil)))))
  .nil) .nil)
  (.cons (.ret (.and (.cmp .eq (.call 47 (.cons (.var 0) .nil)) (.tup .nil)) (.call 80 (.cons (.var 0) (.cons (.var 1) .nil)))))
  .nil)))
def f_shows_lot_3 : Fn := ⟨2, 2, b_shows_lot_3⟩
def N_shows_lot_3 : List Str := ["book", "value"]
/-- _law_flipped (k13); id 127; slots 0:_law_book_here 1:_law_other 2:_law_size 3:_law_deed 4:_law_places 5:_law_before 6:_law_after 7:_law_one -/
def b_law_flipped : Sms := (.cons (.setT (.cons (.n 5) (.cons (.n 6) .nil)) (.ix (.var 0) (.ix (.var 3) (.lit (.int 0)))))
  (.cons (.set 4 (.b1 .tuple (.comp0 (.bin .sub (.bin .sub (.var 2) (.lit (.int 1))) (.var 7)) (.n 7) (.val (.rev (.ix (.var 3) (.lit (.int 1))))) [7])))
  (.cons (.ret (.tup (.cons (.b2 .index (.var 1) (.tup (.cons (.rev (.var 5)) (.cons (.rev (.var 6)) .nil)))) (.cons (.var 4) (.cons (.ix (.var 3) (.lit (.int 2))) (.cons (.ix (.var 3) (.lit (.int 3))) .nil))))))
  .nil)))
def f_law_flipped : Fn := ⟨4, 8, b_law_flipped⟩
def N_law_flipped : List Str := ["_law_book_here", "_law_other", "_law_size", "_law_deed", "_law_places", "_law_before", "_law_after", "_law_one"]
def f_law_k13 : Fn := ⟨0, 0, .nil⟩ -- not carried: dict display
def f_law_k14 : Fn := ⟨0, 0, .nil⟩ -- not carried: call max
/-- law (k15); id 130; slots 0:_law_script 1:_law_row 2:_law_due 3:_law_short 4:_law_wrong 5:_law_rules 6:_law_book 7:_law_good 8:_law_wide 9:_law_sorts 10:_law_here 11:_law_many 12:_law_order_here 13:_law_one 14:_law_k 15:_law_turn 16:_law_other -/
def b_law_k15 : Sms := (.cons (.newCell 1 0 [0, 10615, 0])
  (.cons (.par [9, 10, 11] (.cons (.tup (.cons (.tup (.cons (.tup (.cons (.lit (.int 1)) (.cons (.lit (.int 0)) .nil))) (.cons (.tup (.cons (.lit (.int 0)) (.cons (.lit (.int 1)) .nil))) .nil))) .nil)) (.cons (.call 19 (.cons (.var 1) (.cons (.call 16 (.cons (.var 1) (.cons (.lit (.int 13)) .nil))) .nil))) (.cons (.call 16 (.cons (.var 1) (.cons (.lit (.int 6)) .nil))) .nil))))
  (.cons (.set 2 (.b1 .tuple (.b1 .sorted (.var 10))))
  (.cons (.ifs (.or (.cmp .ne (.call 98 (.cons (.var 9) (.cons (.var 10) .nil))) (.var 2)) (.cmp .ne (.call 109 (.cons (.var 9) (.cons (.var 10) .nil))) (.cmp .eq (.var 10) (.var 2)))) (.cons (.ret (.lit (.bool false)))
  .nil) .nil)
  (.cons (.ifs (.cmp .ne (.call 110 (.cons (.var 9) (.cons (.var 11) .nil))) (.ix (.lst (.cons (.lit (.int 1)) (.cons (.lit (.int 1)) (.cons (.lit (.int 2)) (.cons (.lit (.int 4)) (.cons (.lit (.int 8)) (.cons (.lit (.int 16)) .nil))))))) (.var 11))) (.cons (.ret (.lit (.bool false)))
  .nil) .nil)
  (.cons (.set 3 (.call 19 (.cons (.var 1) (.cons (.call 16 (.cons (.var 1) (.cons (.lit (.int 6)) .nil))) .nil))))
  (.cons (.set 4 (.b1 .sum (.comp0 (.b1 .len (.comp1 (.var 16) (.n 16) (.val (.sliceFrom (.var 3) (.bin .add (.var 14) (.lit (.int 1))))) (.cmp .lt (.var 16) (.ix (.var 3) (.var 14))) [16])) (.n 14) (.range1 (.b1 .len (.var 3))) [14])))
  (.cons (.ifs (.or (.cmp .ne (.call 15 (.cons (.var 9) (.cons (.var 3) .nil))) (.var 4)) (.cmp .ne (.call 12 (.cons (.var 9) (.cons (.var 3) .nil))) (.lst (.cons (.b1 .tuple (.b1 .sorted (.var 3))) .nil)))) (.cons (.ret (.lit (.bool false)))
  .nil) .nil)
  (.cons (.set 5 (.comp1 (.tup (.cons (.var 12) (.cons (.b1 .tuple (.b1 .sorted (.var 12))) .nil))) (.n 12) (.val (.call 60 (.cons (.call 39 (.cons (.var 1) (.cons (.lst (.cons (.lit (.int 2)) (.cons (.lit (.int 3)) (.cons (.lit (.int 3)) (.cons (.lit (.int 4)) .nil))))) .nil))) .nil))) (.cmp .ne (.b1 .list (.var 12)) (.b1 .sorted (.var 12))) [12]))
  (.cons (.set 5 (.comp0 (.ix (.var 5) (.bin .mod (.b1 .int (.var 13)) (.b1 .len (.var 5)))) (.n 13) (.val (.comp0 (.call 16 (.cons (.var 1) (.cons (.lit (.int 64)) .nil))) (.n 15) (.range1 (.lit (.int 5))) [15])) [13]))
  (.cons (.set 6 (.b1 .tuple (.b1 .sortedSet (.var 5))))
  (.cons (.set 7 (.lst (.cons (.tup (.cons (.lit (.str "first")) (.cons (.neg (.lit (.int 1))) .nil))) (.cons (.tup (.cons (.lit (.str "last")) (.cons (.lit (.int 1)) .nil))) (.cons (.tup (.cons (.lit (.str "least first")) (.cons (.neg (.lit (.int 1))) .nil))) (.cons (.tup (.cons (.lit (.str "least last")) (.cons (.neg (.lit (.int 1))) .nil))) (.cons (.tup (.cons (.lit (.str "greatest first")) (.cons (.lit (.int 1)) .nil))) .nil)))))))
  (.cons (.set 7 (.bin .add (.var 7) (.lst (.cons (.tup (.cons (.lit (.str "greatest last")) (.cons (.lit (.int 1)) .nil))) .nil))))
  (.cons (.ifs (.or (.cmp .ne (.b1 .list (.call 48 (.cons (.var 6) .nil))) (.var 7)) (.or (.cmp .ne (.call 52 (.cons (.var 6) .nil)) (.lit (.str "square"))) (.not (.call 49 (.cons (.var 6) .nil))))) (.cons (.ret (.lit (.bool false)))
  .nil) .nil)
  (.cons (.set 8 (.ite (.and (.cmp .gt (.b1 .len (.ix (.ix (.var 6) (.lit (.int 0))) (.lit (.int 0)))) (.lit (.int 2))) (.cmp .lt (.b1 .len (.ix (.ix (.var 6) (.lit (.int 0))) (.lit (.int 0)))) (.lit (.int 4)))) (.bin .add (.var 6) (.var 9)) (.var 9)))
  (.cons (.set 8 (.b1 .tuple (.b1 .sortedSet (.var 8))))
  (.cons (.ret (.and (.call 91 (.cons (.var 8) .nil)) (.and (.call 105 (.cons (.var 8) (.cons (.var 9) .nil))) (.and (.cmp .eq (.call 104 (.cons (.var 8) .nil)) (.var 9)) (.call 109 (.cons (.var 6) (.cons (.var 2) .nil)))))))
  .nil)))))))))))))))))
def f_law_k15 : Fn := ⟨1, 17, b_law_k15⟩
def N_law_k15 : List Str := ["_law_script", "_law_row", "_law_due", "_law_short", "_law_wrong", "_law_rules", "_law_book", "_law_good", "_law_wide", "_law_sorts", "_law_here", "_law_many", "_law_order_here", "_law_one", "_law_k", "_law_turn", "_law_other"]
def f_law_k16 : Fn := ⟨0, 0, .nil⟩ -- not carried: method replace
/-- solve (k17); id 132; slots 0:columns 1:goal 2:told 3:rows 4:costs 5:basis 6:some 7:found 8:at 9:one 10:column -/
def b_solve_4 : Sms := (.cons (.setT (.cons (.n 3) (.cons (.n 4) (.cons (.n 5) .nil))) (.call 113 (.cons (.var 0) (.cons (.var 1) .nil))))
  (.cons (.while (.lit (.bool true)) (.cons (.set 6 (.comp1 (.var 8) (.n 8) (.range1 (.b1 .len (.var 0))) (.call 68 (.cons (.ix (.var 4) (.var 8)) (.cons (.tup (.cons (.lit (.int 0)) (.cons (.lit (.int 1)) .nil))) .nil))) [8]))
  (.cons (.ifs (.cmp .eq (.var 6) (.lst .nil)) (.cons .brk
  .nil) .nil)
  (.cons (.setT (.cons (.n 3) (.cons (.n 4) (.cons (.n 5) .nil))) (.call 72 (.cons (.var 3) (.cons (.var 4) (.cons (.var 5) (.cons (.call 73 (.cons (.var 3) (.cons (.var 5) (.cons (.ix (.var 6) (.lit (.int 0))) .nil)))) (.cons (.ix (.var 6) (.lit (.int 0))) .nil)))))))
  .nil))))
  (.cons (.ifs (.cmp .eq (.ix (.ix (.var 4) (.neg (.lit (.int 1)))) (.lit (.int 0))) (.lit (.int 0))) (.cons (.set 7 (.bin .mul (.lst (.cons (.tup (.cons (.lit (.int 0)) (.cons (.lit (.int 1)) .nil))) .nil)) (.b1 .len (.var 0))))
  (.cons (.for (.t (.cons (.n 8) (.cons (.n 10) .nil))) (.enum (.var 5)) (.cons (.ifs (.cmp .lt (.var 10) (.b1 .len (.var 0))) (.cons (.setIx 7 (.var 10) (.ix (.ix (.var 3) (.var 8)) (.neg (.lit (.int 1)))))
  .nil) .nil)
  .nil))
  (.cons (.freeze 7)
  (.cons (.ret (.tup (.cons (.var 7) (.cons (.lit .none) .nil))))
  .nil)))) .nil)
  (.cons (.set 2 (.lst .nil))
  (.cons (.for (.t (.cons (.n 8) (.cons (.n 9) .nil))) (.enum (.var 1)) (.cons (.append 2 (.call 66 (.cons (.tup (.cons (.ite (.cmp .lt (.var 9) (.lit (.int 0))) (.neg (.lit (.int 1))) (.lit (.int 1))) (.cons (.lit (.int 1)) .nil))) (.cons (.call 65 (.cons (.tup (.cons (.lit (.int 1)) (.cons (.lit (.int 1)) .nil))) (.cons (.ix (.var 4) (.bin .add (.b1 .len (.var 0)) (.var 8))) .nil))) .nil))))
  .nil))
  (.cons (.freeze 2)
  (.cons (.ret (.tup (.cons (.lit .none) (.cons (.var 2) .nil))))
  .nil)))))))
def f_solve_4 : Fn := ⟨2, 11, b_solve_4⟩
def N_solve_4 : List Str := ["columns", "goal", "told", "rows", "costs", "basis", "some", "found", "at", "one", "column"]
/-- lot_in (k17); id 133; slots 0:book 1:size 2:deeds 3:columns 4:multiples 5:told 6:deed 7:many -/
def b_lot_in_4 : Sms := (.cons (.for (.n 1) (.range2 (.lit (.int 2)) (.bin .add (.glob "MOST_GRID" (.int 4)) (.lit (.int 1)))) (.cons (.set 2 (.call 75 (.cons (.var 0) (.cons (.var 1) .nil))))
  (.cons (.set 3 (.comp0 (.bin .add (.call 76 (.cons (.var 0) (.cons (.var 1) (.cons (.var 6) .nil)))) (.lst (.cons (.lit (.int 1)) .nil))) (.n 6) (.val (.var 2)) [6]))
  (.cons (.freeze 3)
  (.cons (.set 4 (.ix (.call 132 (.cons (.var 3) (.cons (.bin .add (.bin .mul (.lst (.cons (.lit (.int 0)) .nil)) (.bin .mul (.var 1) (.var 1))) (.lst (.cons (.lit (.int 1)) .nil))) .nil))) (.lit (.int 0))))
  (.cons (.ifs (.notNone (.var 4)) (.cons (.set 5 (.call 69 (.cons (.var 4) .nil)))
  (.cons (.ret (.tup (.cons (.var 1) (.cons (.b1 .tuple (.comp1 (.bin .add (.var 6) (.tup (.cons (.var 7) .nil))) (.t (.cons (.n 6) (.cons (.n 7) .nil))) (.zip (.var 2) (.var 5)) (.cmp .gt (.var 7) (.lit (.int 0))) [6, 7])) .nil))))
  .nil)) .nil)
  .nil))))))
  (.cons (.ret (.lit .none))
  .nil))
def f_lot_in_4 : Fn := ⟨1, 8, b_lot_in_4⟩
def N_lot_in_4 : List Str := ["book", "size", "deeds", "columns", "multiples", "told", "deed", "many"]
/-- shows_lot (k17); id 134; slots 0:book 1:value -/
def b_shows_lot_4 : Sms := (.cons (.expr (.call 3 (.cons (.var 0) .nil)))
  (.cons (.ifs (.isNone (.var 1)) (.cons (.ret (.or (.cmp .ne (.call 47 (.cons (.var 0) .nil)) (.tup .nil)) (.isNone (.call 133 (.cons (.var 0) .nil)))))
  .nil) .nil)
  (.cons (.ret (.and (.cmp .eq (.call 47 (.cons (.var 0) .nil)) (.tup .nil)) (.call 80 (.cons (.var 0) (.cons (.var 1) .nil)))))
  .nil)))
def f_shows_lot_4 : Fn := ⟨2, 2, b_shows_lot_4⟩
def N_shows_lot_4 : List Str := ["book", "value"]
def f_law_k17 : Fn := ⟨0, 0, .nil⟩ -- not carried: Lambda
def gt0 : List Fn := [f_is_in, f_is_row, f_is_rule, f_need_book, f_need_row, f_spots, f_lie, f_steps_in, f_need_both, f_steps, f_come_in, f_all_come, f_walked_rests, f_order_in, f_goes_on, f_longest, f_law_taken, f_law_order, f_law_lie, f_law_drawn]
def gt1 : List Fn := [f_law_rule, f_law_signs, f_law_book, f_law_alike, f_law_spots, f_law_steps, f_law_walk, f_law_layers, f_law_last_ones, f_law_k00, f_mirrored, f_turned, f_undone, f_joined, f_write_book, f_skip, f_digits_at, f_rule_at, f_read_book, f_law_pick]
def gt2 : List Fn := [f_law_skip, f_law_text_due, f_law_k01, f_need_rule, f_sign_of, f_signs_in, f_signs, f_ways_in, f_ways, f_ends, f_corner_sums_in, f_corner_sums, f_growth, f_law_words, f_law_ways, f_law_k02, f_law_weight, f_law_k03, f_all_rows, f_round_row]
def gt3 : List Fn := [f_law_rows, f_law_round, f_law_k04, f_gcd, f_reduced, f_minus, f_times, f_over, f_less, f_whole, f_first_tableau, f_taken_off, f_turned_2, f_leaving, f_solve, f_deeds_on, f_change_of, f_lot_in, f_lot, f_is_deed]
def gt4 : List Fn := [f_is_lot, f_shows_lot, f_law_is_vector, f_law_is_lot, f_law_k05, f_law_k06, f_longest_rule, f_need_ending, f_rests_of, f_clash_in, f_clash, f_has_one_rest, f_law_calm, f_law_all_rests, f_law_clash, f_law_k07, f_need_one_rest, f_rested, f_rest, f_law_k08]
def gt5 : List Fn := [f_lies_in, f_is_calm, f_part_of, f_least_in, f_least_book, f_alike, f_law_one_rest, f_law_walk_2, f_law_k09, f_at_rest, f_calm_count, f_only_calm, f_law_k10, f_first_tableau_2, f_solve_2, f_lot_in_2, f_lot_2, f_shows_lot_2, f_law_k11, f_law_bad_values]
def gt6 : List Fn := [f_law_error1, f_law_refused, f_law_k12, f_solve_3, f_lot_in_3, f_lot_3, f_shows_lot_3, f_law_flipped, f_law_k13, f_law_k14, f_law_k15, f_law_k16, f_solve_4, f_lot_in_4, f_shows_lot_4, f_law_k17]
def GT : List Fn := gt0 ++ gt1 ++ gt2 ++ gt3 ++ gt4 ++ gt5 ++ gt6
end Tw
set_option Elab.async false
set_option linter.all false
set_option maxRecDepth 100000
set_option maxHeartbeats 4000000
/-! The plain side: the evaluator's equations as simp rules. -/
namespace Tw
open PySem
/-- what comes behind a statement -/
def nx (C : Calls) (F : Nat) (r : Sms) (p : Flo × Ev) (m : Mu) : Out (Flo × Ev) := match p.1 with
  | .next => exs C F r p.2 m
  | _ => .ok p m
@[simp] theorem nx_next {C : Calls} {F : Nat} {r : Sms} {e : Ev} {m : Mu} : nx C F r (.next, e) m = exs C F r e m := rfl
@[simp] theorem nx_ret {C : Calls} {F : Nat} {r : Sms} {e : Ev} {m : Mu} {d : PyData} : nx C F r (.ret d, e) m = .ok (.ret d, e) m := rfl
@[simp] theorem nx_brk {C : Calls} {F : Nat} {r : Sms} {e : Ev} {m : Mu} : nx C F r (.brk, e) m = .ok (.brk, e) m := rfl
/-- which way a truth value leads -/
def bb {α : Type} (d : PyData) (x y : Out α) : Out α := match d with
  | .bool true => x
  | .bool false => y
  | _ => .bad
@[simp] theorem bb_t {α : Type} {x y : Out α} : bb (.bool true) x y = x := rfl
@[simp] theorem bb_f {α : Type} {x y : Out α} : bb (.bool false) x y = y := rfl
@[simp] theorem bb_b {α : Type} {k : Bool} {x y : Out α} : bb (.bool k) x y = if k = true then x else y := by cases k <;> rfl
@[simp] theorem ite_ok {α : Type} {c : Prop} [Decidable c] {a b : α} {m : Mu} : (if c then Out.ok a m else Out.ok b m) = Out.ok (if c then a else b) m := by split <;> rfl
@[simp] theorem ite_pair {c : Prop} [Decidable c] {a b : PyData} {f : Fl} : (if c then (a, f) else (b, f)) = (if c then a else b, f) := by split <;> rfl
@[simp] theorem ite_int {c : Prop} [Decidable c] {a b : Int} : (if c then PyData.int a else PyData.int b) = PyData.int (if c then a else b) := by split <;> rfl
@[simp] theorem ite_bool {c : Prop} [Decidable c] {a b : Bool} : (if c then PyData.bool a else PyData.bool b) = PyData.bool (if c then a else b) := by split <;> rfl
def bo {α : Type} (o : Option Bool) (x y : Out α) : Out α := match o with
  | some true => x
  | some false => y
  | none => .bad
@[simp] theorem bo_b {α : Type} {k : Bool} {x y : Out α} : bo (some k) x y = if k = true then x else y := by cases k <;> rfl
/-- range(d) -/
def rgO (d : PyData) (m : Mu) : Out (List PyData × Fl) := match d with
  | .int n => if decide (-1000000 ≤ n) && decide (n ≤ 1000000) then .ok (rangeL 0 n.toNat, .c) m else .bad
  | _ => .bad
/-- range(d, e) -/
def rgO2 (d e : PyData) (m : Mu) : Out (List PyData × Fl) := match d, e with
  | .int i, .int n => if decide (-1000000 ≤ n) && decide (n ≤ 1000000) && decide (-1000000 ≤ i) && decide (i ≤ 1000000) then .ok (rangeL i (n - i).toNat, .c) m else .bad
  | _, _ => .bad
def ksO (o : Option (List PyData)) (m : Mu) : Out (List PyData × Fl) := match o with
  | some ks => .ok (ks, .c) m
  | none => .bad
@[simp] theorem ksO_s {ks : List PyData} {m : Mu} : ksO (some ks) m = .ok (ks, .c) m := rfl
@[simp] theorem keysD_c {kvs : List (PyData × PyData)} : keysD (.dict kvs, .c) = some (kvs.map (·.1)) := rfl
def notD (d : PyData) (m : Mu) : Out (PyData × Fl) := match d with
  | .bool k => .ok (.bool (!k), .c) m
  | _ => .bad
@[simp] theorem notD_b {k : Bool} {m : Mu} : notD (.bool k) m = .ok (.bool (!k), .c) m := rfl
section
variable {C : Calls} {F : Nat} {env : Ev} {m : Mu} {a b c x y z : Ex} {i j n : Nat}
@[simp] theorem ev_var : ev C (.var i) env m = match getS env i with
    | some (.v d) => .ok (d, .c) m
    | some (.o xs) => .ok (.list xs, .b) m
    | some (.od kvs) => .ok (.dict kvs, .b) m
    | _ => .bad := by rw [ev] <;> (split <;> simp_all)
@[simp] theorem ev_lit {d : PyData} : ev C (.lit d) env m = .ok (d, .c) m := by rw [ev]; try rfl
@[simp] theorem ev_glob {d : PyData} {s : Str} : ev C (.glob s d) env m = .ok (d, .c) m := by rw [ev]; try rfl
@[simp] theorem ev_cellIx : ev C (.cellIx i n) env m = .of ((cellGet (getS env i) m n).map fun d => (d, .c)) m := by rw [ev]; try rfl
@[simp] theorem ev_scrLen : ev C (.scrLen i) env m = .of ((scrGet (getS env i) m).map fun ns => (.int ns.length, .c)) m := by rw [ev]; try rfl
@[simp] theorem ev_scrIx : ev C (.scrIx i a) env m = match scrGet (getS env i) m with
    | some ns => (ev C a env m).bind fun x m => .of ((intOf x.1).bind fun k => (L2.atI ns k).map fun j => (.int j, .c)) m
    | none => .bad := by rw [ev]; try rfl
@[simp] theorem ev_tup {es : Exs} : ev C (.tup es) env m = (evs C es env m).bind fun ds m => .ok (.tuple ds, .c) m := by rw [ev]; try rfl
@[simp] theorem ev_lst {es : Exs} : ev C (.lst es) env m = (evs C es env m).bind fun ds m => .ok (.list ds, .f) m := by rw [ev]; try rfl
@[simp] theorem ev_ed : ev C .emptyDict env m = .ok (.dict [], .f) m := by rw [ev]; try rfl
@[simp] theorem ev_bin {o : Bo} : ev C (.bin o a b) env m = (ev C a env m).bind fun x m => (ev C b env m).bind fun y m => .of (binD o x.1 y.1) m := by rw [ev]; try rfl
@[simp] theorem ev_neg : ev C (.neg a) env m = (ev C a env m).bind fun x m => .of ((intOf x.1).map fun i => (.int (-i), .c)) m := by rw [ev]; try rfl
@[simp] theorem ev_cmp {o : Co} : ev C (.cmp o a b) env m = (ev C a env m).bind fun x m => (ev C b env m).bind fun y m => .of ((cmpD o x.1 y.1).map fun k => (.bool k, .c)) m := by rw [ev]; try rfl
@[simp] theorem ev_chain {o p : Co} : ev C (.chain o p a b c) env m = (ev C a env m).bind fun x m => (ev C b env m).bind fun y m => bo (cmpD o x.1 y.1) ((ev C c env m).bind fun z m => .of ((cmpD p y.1 z.1).map fun k => (.bool k, .c)) m) (.ok (.bool false, .c) m) := by rw [ev]; rfl
@[simp] theorem ev_isNone : ev C (.isNone a) env m = (ev C a env m).bind fun x m => .ok (.bool (isNoneD x.1), .c) m := by rw [ev]; try rfl
@[simp] theorem ev_notNone : ev C (.notNone a) env m = (ev C a env m).bind fun x m => .ok (.bool (!isNoneD x.1), .c) m := by rw [ev]; try rfl
@[simp] theorem ev_and : ev C (.and a b) env m = (ev C a env m).bind fun x m => bb x.1 (ev C b env m) (.ok (.bool false, .c) m) := by rw [ev]; rfl
@[simp] theorem ev_or : ev C (.or a b) env m = (ev C a env m).bind fun x m => bb x.1 (.ok (.bool true, .c) m) (ev C b env m) := by rw [ev]; rfl
@[simp] theorem ev_not : ev C (.not a) env m = (ev C a env m).bind fun x m => notD x.1 m := by rw [ev]; rfl
@[simp] theorem ev_ite : ev C (.ite c a b) env m = (ev C c env m).bind fun x m => bb x.1 (ev C a env m) (ev C b env m) := by rw [ev]; rfl
@[simp] theorem ev_ix : ev C (.ix a b) env m = (ev C a env m).bind fun x m => (ev C b env m).bind fun y m => .of ((ixD x.1 y.1).map fun d => (d, .c)) m := by rw [ev]; try rfl
@[simp] theorem ev_sliceTo : ev C (.sliceTo a b) env m = (ev C a env m).bind fun x m => (ev C b env m).bind fun y m => match y.1 with
    | .int j => .of (sliceD x.1 none (some j)) m
    | _ => .bad := by rw [ev]; try rfl
@[simp] theorem ev_sliceFrom : ev C (.sliceFrom a b) env m = (ev C a env m).bind fun x m => (ev C b env m).bind fun y m => match y.1 with
    | .int j => .of (sliceD x.1 (some j) none) m
    | _ => .bad := by rw [ev]; try rfl
@[simp] theorem ev_slice : ev C (.slice a b c) env m = (ev C a env m).bind fun x m => (ev C b env m).bind fun y m => match y.1 with
    | .int i => (ev C c env m).bind fun z m => match z.1 with
      | .int j => .of (sliceD x.1 (some i) (some j)) m
      | _ => .bad
    | _ => .bad := by rw [ev]; try rfl
@[simp] theorem ev_call {f : Nat} {es : Exs} : ev C (.call f es) env m = (evA C es env m).bind fun vs m => (C f vs m).bind fun d m => .ok (d, .c) m := by rw [ev]; try rfl
@[simp] theorem ev_b1 {f : B1} : ev C (.b1 f a) env m = (ev C a env m).bind fun x m => .of (b1D f x.1) m := by rw [ev]; try rfl
@[simp] theorem ev_b2 {f : B2} : ev C (.b2 f a b) env m = (ev C a env m).bind fun x m => match b2ok f x.1 with
    | true => (ev C b env m).bind fun y m => .of (b2D f x.1 y.1) m
    | false => .bad := by rw [ev]; try rfl
@[simp] theorem evs_nil : evs C .nil env m = .ok [] m := by rw [evs]; try rfl
@[simp] theorem evs_cons {r : Exs} : evs C (.cons a r) env m = (ev C a env m).bind fun x m => match keepD x with
    | some d => (evs C r env m).bind fun ds m => .ok (d :: ds) m
    | none => .bad := by rw [evs]; try rfl
@[simp] theorem evA_nil : evA C .nil env m = .ok [] m := by rw [evA]; try rfl
@[simp] theorem evA_cons {r : Exs} : evA C (.cons a r) env m = match isCell env a with
    | true => (evA C r env m).bind fun vs m => .ok (.cell :: vs) m
    | false => (ev C a env m).bind fun x m => match keepD x with
      | some d => (evA C r env m).bind fun vs m => .ok (.d d :: vs) m
      | none => .bad := by rw [evA]; try rfl
@[simp] theorem evI_val : evI C (.val a) env m = (ev C a env m).bind fun x m => .of ((seqOf x.1).map fun xs => (xs, joinF x.2 .c)) m := by rw [evI]; try rfl
theorem evI_range1 : evI C (.range1 a) env m = (ev C a env m).bind fun x m => rgO x.1 m := by rw [evI]; rfl
theorem evI_range2 : evI C (.range2 a b) env m = (ev C a env m).bind fun x m => (ev C b env m).bind fun y m => rgO2 x.1 y.1 m := by rw [evI]; rfl
@[simp] theorem evI_enum : evI C (.enum a) env m = (ev C a env m).bind fun x m => .of ((seqOf x.1).map fun xs => ((enumD 0 xs).map .tuple, joinF x.2 .c)) m := by rw [evI]; try rfl
@[simp] theorem evI_zip : evI C (.zip a b) env m = (ev C a env m).bind fun x m => (ev C b env m).bind fun y m => .of ((both x.1 y.1).map fun p => ((zipD p.1 p.2).map .tuple, joinF x.2 y.2)) m := by rw [evI]; try rfl
@[simp] theorem evI_keys : evI C (.keys a) env m = (ev C a env m).bind fun x m => ksO (keysD x) m := by rw [evI]; rfl
@[simp] theorem exs_nil : exs C F .nil env m = .ok (.next, env) m := by rw [exs]; try rfl
@[simp] theorem exs_cons {s : Sm} {r : Sms} : exs C F (.cons s r) env m = (ex C F s env m).bind (nx C F r) := by rw [exs]; rfl
@[simp] theorem ex_set : ex C F (.set i a) env m = (ev C a env m).bind fun x m => .of ((setV env i x).map fun env' => (.next, env')) m := by rw [ex]; try rfl
@[simp] theorem ex_setT {ts : Tgs} : ex C F (.setT ts a) env m = (ev C a env m).bind fun x m => match keepD x with
    | some (.tuple xs) => .of ((bindGs ts env xs).map fun env' => (.next, env')) m
    | _ => .bad := by rw [ex]; try rfl
@[simp] theorem ex_par {is : List Nat} {es : Exs} : ex C F (.par is es) env m = (evP C es env m).bind fun ps m => .of ((parV env is ps).map fun env' => (.next, env')) m := by rw [ex]; try rfl
@[simp] theorem ex_ret : ex C F (.ret a) env m = (ev C a env m).bind fun x m => match keepD x with
    | some d => .ok (.ret d, env) m
    | none => .bad := by rw [ex]; try rfl
@[simp] theorem ex_ifs {s t : Sms} : ex C F (.ifs a s t) env m = (ev C a env m).bind fun x m => bb x.1 (exs C F s env m) (exs C F t env m) := by rw [ex]; rfl
@[simp] theorem ex_setCell : ex C F (.setCell i n a) env m = (ev C a env m).bind fun x m => match setCellD (getS env i) m x.1 n with
    | some p => .ok (.next, env) (some p)
    | none => .bad := by rw [ex]; try rfl
@[simp] theorem ex_append : ex C F (.append i a) env m = match getS env i with
    | some (.o xs) => (ev C a env m).bind fun x m => match keepD x with
      | some d => if sz xs.length then .ok (.next, setS env i (.o (xs ++ [d]))) m else .bad
      | none => .bad
    | _ => .bad := by rw [ex] <;> split <;> (first | rfl | (simp_all; done) | (rename_i h; rw [h]; rfl))
end
end Tw
set_option Elab.async false
set_option linter.all false
set_option maxRecDepth 100000
set_option maxHeartbeats 4000000
/-! The plain side: outcomes, loops, comprehensions. -/
namespace Tw
open PySem
/-! ### outcomes -/
def W {α : Type} (x : Out α) (Q : α → Mu → Prop) : Prop := ∃ a m, x = .ok a m ∧ Q a m
section
variable {α β : Type} {x : Out α} {a r : α} {m m' : Mu} {Q P : α → Mu → Prop} {o : Option α}
@[simp] theorem W_ok : W (.ok a m) Q ↔ Q a m := ⟨fun ⟨_, _, e, h⟩ => by cases e; exact h, fun h => ⟨_, _, rfl, h⟩⟩
@[simp] theorem W_bad : W (.bad : Out α) Q ↔ False := ⟨fun ⟨_, _, e, _⟩ => by (cases e), False.elim⟩
@[simp] theorem W_bind {f : α → Mu → Out β} {Q : β → Mu → Prop} : W (x.bind f) Q ↔ W x (fun a m => W (f a m) Q) := by
  constructor
  · rintro ⟨b, m1, e, h⟩
    cases x with
    | ok a m => exact ⟨a, m, rfl, b, m1, e, h⟩
    | ex c fs m => cases e
    | bad => cases e
  · rintro ⟨a, m, e, b, m1, e1, h⟩
    subst e
    exact ⟨b, m1, e1, h⟩
theorem W_of : W (.of o m) Q ↔ ∃ a, o = some a ∧ Q a m := by
  cases o with
  | none => simp [Out.of]
  | some a => simp [Out.of]
theorem W.mono (h : W x P) (hi : ∀ a m, P a m → Q a m) : W x Q := by obtain ⟨a, m, e, p⟩ := h; exact ⟨a, m, e, hi _ _ p⟩
theorem W.eq (h : W x fun a m' => a = r ∧ m' = m) : x = .ok r m := by obtain ⟨a, m1, e, rfl, rfl⟩ := h; exact e
theorem W.of_eq (h : x = .ok r m) (q : Q r m) : W x Q := ⟨_, _, h, q⟩
end
theorem callN_eq {F n f : Nat} {vs : List Vl} {m : Mu} {fn : Fn} (hT : GT[f]? = some fn) (h : vs.length = fn.np) : callN GT F (n + 1) f vs m = sameM m (endF (exs (callN GT F n) F fn.body (startS fn.nl vs) m)) := by
  show (match GT[f]? with | some fn => if vs.length = fn.np then sameM m (endF (exs (callN GT F n) F fn.body (startS fn.nl vs) m)) else .bad | none => .bad) = _
  rw [hT]; simp only [h, if_true]
def sameN (m m' : Mu) : Prop := m.isNone = m'.isNone
@[simp] theorem sameN_refl {m : Mu} : sameN m m := rfl
/-- what a def's end must give -/
def Fin (m : Mu) (Q : PyData → Mu → Prop) (r : Flo × Ev) (m' : Mu) : Prop := sameN m m' ∧ match r.1 with
  | .ret d => Q d m'
  | .next => Q .none m'
  | .brk => False
@[simp] theorem Fin_ret {m m' : Mu} {Q : PyData → Mu → Prop} {d : PyData} {e : Ev} : Fin m Q (.ret d, e) m' ↔ sameN m m' ∧ Q d m' := Iff.rfl
@[simp] theorem Fin_next {m m' : Mu} {Q : PyData → Mu → Prop} {e : Ev} : Fin m Q (.next, e) m' ↔ sameN m m' ∧ Q .none m' := Iff.rfl
theorem W_call {F n f : Nat} {vs : List Vl} {m : Mu} {Q : PyData → Mu → Prop} (fn : Fn) (hT : GT[f]? = some fn) (h : vs.length = fn.np) (w : W (exs (callN GT F n) F fn.body (startS fn.nl vs) m) (Fin m Q)) : W (callN GT F (n + 1) f vs m) Q := by
  rw [callN_eq hT h]
  obtain ⟨⟨r, e⟩, m', e1, h1, h2⟩ := w
  have h1 : m.isNone = m'.isNone := h1
  rw [e1]
  cases r with
  | ret d => exact ⟨d, m', by simp [endF, sameM, h1], h2⟩
  | next => exact ⟨.none, m', by simp [endF, sameM, h1], h2⟩
  | brk => exact h2.elim
/-! ### frames -/
@[simp] theorem getS_zero (s : Option Sl) (r : Ev) : getS (s :: r) 0 = s := by cases s <;> rfl
@[simp] theorem getS_succ (s : Option Sl) (r : Ev) (i : Nat) : getS (s :: r) (i + 1) = getS r i := rfl
@[simp] theorem getS_nil (i : Nat) : getS [] i = none := rfl
@[simp] theorem setS_zero (s : Option Sl) (r : Ev) (t : Sl) : setS (s :: r) 0 t = some t :: r := rfl
@[simp] theorem setS_succ (s : Option Sl) (r : Ev) (i : Nat) (t : Sl) : setS (s :: r) (i + 1) t = s :: setS r i t := rfl
@[simp] theorem setV_fl {env : Ev} {i : Nat} {xs : List PyData} : setV env i (.list xs, .f) = some (setS env i (.o xs)) := rfl
@[simp] theorem setV_fd {env : Ev} {i : Nat} {kvs : List (PyData × PyData)} : setV env i (.dict kvs, .f) = some (setS env i (.od kvs)) := rfl
@[simp] theorem setV_c {env : Ev} {i : Nat} {d : PyData} : setV env i (d, .c) = some (setS env i (.v d)) := by cases d <;> rfl
@[simp] theorem keepD_c {d : PyData} : keepD (d, .c) = some d := rfl
@[simp] theorem keepD_f {d : PyData} : keepD (d, .f) = some d := rfl
@[simp] theorem parV_nil {env : Ev} : parV env [] [] = some env := rfl
@[simp] theorem parV_cons {env : Ev} {i : Nat} {is : List Nat} {p : PyData × Fl} {ps : List (PyData × Fl)} : parV env (i :: is) (p :: ps) = match setV env i p with
    | some env' => parV env' is ps
    | none => none := rfl
@[simp] theorem evP_nil {C : Calls} {env : Ev} {m : Mu} : evP C .nil env m = .ok [] m := rfl
@[simp] theorem evP_cons {C : Calls} {e : Ex} {r : Exs} {env : Ev} {m : Mu} : evP C (.cons e r) env m = (ev C e env m).bind fun x m => (evP C r env m).bind fun ps m => .ok (x :: ps) m := rfl
@[simp] theorem bindG_n {i : Nat} {env : Ev} {x : PyData} : bindG (.n i) env x = some (setS env i (.v x)) := by rw [bindG]
@[simp] theorem bindG_t {ts : Tgs} {env : Ev} {xs : List PyData} : bindG (.t ts) env (.tuple xs) = bindGs ts env xs := by rw [bindG]
@[simp] theorem bindGs_nil {env : Ev} : bindGs .nil env [] = some env := by rw [bindGs]
@[simp] theorem bindGs_cons {t : Tg} {r : Tgs} {env : Ev} {x : PyData} {xs : List PyData} : bindGs (.cons t r) env (x :: xs) = match bindG t env x with
    | some env' => bindGs r env' xs
    | none => none := by rw [bindGs] <;> rfl
@[simp] theorem wipeS_nil {env : Ev} : wipeS env [] = env := rfl
@[simp] theorem wipeS_cons {env : Ev} {v : Nat} {vs : List Nat} : wipeS env (v :: vs) = (wipeS env vs).set v none := rfl
@[simp] theorem isCell_var {env : Ev} {i : Nat} : isCell env (.var i) = match getS env i with
    | some .cell => true
    | _ => false := by rw [isCell] <;> (split <;> simp_all)
section
variable {C : Calls} {F : Nat} {env : Ev} {m : Mu} {a b c x y z : Ex} {i j n : Nat}
@[simp] theorem ex_expr : ex C F (.expr a) env m = (ev C a env m).bind fun _ m => .ok (.next, env) m := by rw [ex]; try rfl
@[simp] theorem ex_brk : ex C F .brk env m = .ok (.brk, env) m := by rw [ex]; try rfl
@[simp] theorem ex_never : ex C F .never env m = .bad := by rw [ex]; try rfl
@[simp] theorem ex_freeze : ex C F (.freeze i) env m = match getS env i with
    | some .cell => .ok (.next, env) m
    | some (.scr _) => .ok (.next, env) m
    | some s => .ok (.next, setS env i (.v (slD s))) m
    | none => .ok (.next, env) m := by rw [ex] <;> (split <;> simp_all)
@[simp] theorem ex_setIx {k e : Ex} : ex C F (.setIx i k e) env m = (ev C e env m).bind fun x m => match keepD x, ownS (getS env i) with
    | some d, some s => (ev C k env m).bind fun y m => .of ((storeIx s y.1 d).map fun s' => (.next, setS env i s')) m
    | _, _ => .bad := by rw [ex]; try rfl
@[simp] theorem ex_newCell {ks : List Int} : ex C F (.newCell i j ks) env m = match newCellD (getS env j) m with
    | some ns => .ok (.next, setS (env.set j none) i .cell) (some (ns, ks))
    | none => .bad := by rw [ex]; try rfl
@[simp] theorem newCellD_scr {ns : List Int} : newCellD (some (.scr ns)) none = some ns := rfl
theorem ex_for {tg : Tg} {it : It} {s : Sms} (hk : isKeys it = false) : ex C F (.for tg it s) env m = (evI C it env m).bind fun xs m => match xs.2 with
    | .b => .bad
    | _ => forL (fun x env m => match bindG tg env x with
      | some env' => exs C F s env' m
      | none => .bad) xs.1 env m := by
  rw [ex]; simp only [hk]; rfl
end
@[simp] theorem isCell_lit {d : PyData} {env : Ev} : isCell env (.lit d) = false := rfl
@[simp] theorem isCell_glob {x : Str} {d : PyData} {env : Ev} : isCell env (.glob x d) = false := rfl
@[simp] theorem isCell_cellIx {i n : Nat} {env : Ev} : isCell env (.cellIx i n) = false := rfl
@[simp] theorem isCell_scrLen {i : Nat} {env : Ev} : isCell env (.scrLen i) = false := rfl
@[simp] theorem isCell_scrIx {i : Nat} {e : Ex} {env : Ev} : isCell env (.scrIx i e) = false := rfl
@[simp] theorem isCell_tup {es : Exs} {env : Ev} : isCell env (.tup es) = false := rfl
@[simp] theorem isCell_lst {es : Exs} {env : Ev} : isCell env (.lst es) = false := rfl
@[simp] theorem isCell_ed  {env : Ev} : isCell env (.emptyDict) = false := rfl
@[simp] theorem isCell_bin {o : Bo} {a b : Ex} {env : Ev} : isCell env (.bin o a b) = false := rfl
@[simp] theorem isCell_neg {a : Ex} {env : Ev} : isCell env (.neg a) = false := rfl
@[simp] theorem isCell_cmp {o : Co} {a b : Ex} {env : Ev} : isCell env (.cmp o a b) = false := rfl
@[simp] theorem isCell_ite {a b c : Ex} {env : Ev} : isCell env (.ite c a b) = false := rfl
@[simp] theorem isCell_ix {a i : Ex} {env : Ev} : isCell env (.ix a i) = false := rfl
@[simp] theorem isCell_sliceTo {a i : Ex} {env : Ev} : isCell env (.sliceTo a i) = false := rfl
@[simp] theorem isCell_sliceFrom {a i : Ex} {env : Ev} : isCell env (.sliceFrom a i) = false := rfl
@[simp] theorem isCell_rev {a : Ex} {env : Ev} : isCell env (.rev a) = false := rfl
@[simp] theorem isCell_call {f : Nat} {es : Exs} {env : Ev} : isCell env (.call f es) = false := rfl
@[simp] theorem isCell_b1 {f : B1} {a : Ex} {env : Ev} : isCell env (.b1 f a) = false := rfl
@[simp] theorem isCell_b2 {f : B2} {a b : Ex} {env : Ev} : isCell env (.b2 f a b) = false := rfl
@[simp] theorem isCell_comp0 {a : Ex} {t : Tg} {i : It} {o : List Nat} {env : Ev} : isCell env (.comp0 a t i o) = false := rfl
@[simp] theorem isCell_comp1 {a c : Ex} {t : Tg} {i : It} {o : List Nat} {env : Ev} : isCell env (.comp1 a t i c o) = false := rfl
@[simp] theorem isCell_and {a b : Ex} {env : Ev} : isCell env (.and a b) = false := rfl
@[simp] theorem isCell_or {a b : Ex} {env : Ev} : isCell env (.or a b) = false := rfl
@[simp] theorem isCell_not {a : Ex} {env : Ev} : isCell env (.not a) = false := rfl
@[simp] theorem isCell_isNone {a : Ex} {env : Ev} : isCell env (.isNone a) = false := rfl
@[simp] theorem isCell_notNone {a : Ex} {env : Ev} : isCell env (.notNone a) = false := rfl
@[simp] theorem isKeys_val {e : Ex} : isKeys (.val e) = false := rfl
@[simp] theorem isKeys_range1 {e : Ex} : isKeys (.range1 e) = false := rfl
@[simp] theorem isKeys_range2 {e f : Ex} : isKeys (.range2 e f) = false := rfl
@[simp] theorem isKeys_enum {e : Ex} : isKeys (.enum e) = false := rfl
@[simp] theorem isKeys_zip {e f : Ex} : isKeys (.zip e f) = false := rfl
/-! ### loops -/
theorem forL_W {α : Type} {e : α → PyData} {body : PyData → Ev → Mu → Out (Flo × Ev)} {Q : Flo × Ev → Mu → Prop} {P : List α → Ev → Mu → Prop} :
    ∀ (post pre : List α) (env : Ev) (m : Mu), (∀ p a q env m, pre ++ post = p ++ a :: q → P p env m → W (body (e a) env m) fun r m => match r.1 with | .next => P (p ++ [a]) r.2 m | .brk => Q (.next, r.2) m | .ret d => Q (.ret d, r.2) m) →
    P pre env m → (∀ env m, P (pre ++ post) env m → Q (.next, env) m) → W (forL body (post.map e) env m) Q
  | [], pre, env, m, _, h0, hq => by
    rw [List.append_nil] at hq
    show W (.ok (.next, env) m) Q
    exact W_ok.mpr (hq _ _ h0)
  | a :: post, pre, env, m, hs, h0, hq => by
    show W ((body (e a) env m).bind _) Q
    refine W_bind.mpr ((hs pre a post env m rfl h0).mono fun r m' hr => ?_)
    obtain ⟨r, env'⟩ := r
    cases r with
    | next => exact forL_W post (pre ++ [a]) env' m' (by simpa using hs) hr (by simpa using hq)
    | brk => exact W_ok.mpr hr
    | ret d => exact W_ok.mpr hr
/-- a for loop by what holds behind each beginning of its items -/
theorem W_for {α : Type} {C : Calls} {F : Nat} {tg : Tg} {it : It} {s : Sms} {env : Ev} {m m' : Mu} {Q : Flo × Ev → Mu → Prop} {fl : Fl} (l : List α) (e : α → PyData) (P : List α → Ev → Mu → Prop)
    (hi : evI C it env m = .ok (l.map e, fl) m') (h0 : P [] env m')
    (hs : ∀ p a q env m (K : Flo × Ev → Mu → Prop), l = p ++ a :: q → P p env m → (∀ env m, P (p ++ [a]) env m → K (.next, env) m) → (∀ env m, Q (.next, env) m → K (.brk, env) m) → (∀ d env m, Q (.ret d, env) m → K (.ret d, env) m) → W (match bindG tg env (e a) with | some env' => exs C F s env' m | none => .bad) K)
    (hq : ∀ env m, P l env m → Q (.next, env) m) (hk : isKeys it = false := by rfl) (hf : fl ≠ .b := by decide) : W (ex C F (.for tg it s) env m) Q := by
  rw [ex_for hk, hi, Out.bind_ok]
  have := forL_W (e := e) (body := fun x env m => match bindG tg env x with | some env' => exs C F s env' m | none => .bad) (Q := Q) (P := P) l [] env m' (fun p a q env m e0 h => hs p a q env m _ e0 h (fun _ _ h => h) (fun _ _ h => h) (fun _ _ _ h => h)) h0 (by simpa using hq)
  cases fl with
  | b => exact absurd rfl hf
  | c => exact this
  | f => exact this
theorem lc_map {α : Type} {e : α → PyData} {f : PyData → Mu → Out (Option PyData)} {g : α → Option PyData} {m : Mu} : ∀ {l : List α}, (∀ a ∈ l, f (e a) m = .ok (g a) m) → lcLoop f (l.map e) m = .ok (l.filterMap g) m
  | [], _ => rfl
  | a :: l, h => by
    show ((f (e a) m).noex.bind fun y m => _) = _
    rw [h a (by simp)]
    show ((lcLoop f (l.map e) m).bind fun ds m => _) = _
    rw [lc_map (l := l) fun b hb => h b (by simp [hb])]
    cases hg : g a <;> simp [hg, Out.bind]
/-- one item of a comprehension -/
def keepO (m : Mu) : Option PyData → Out (Option PyData)
  | some d => .ok (some d) m
  | none => .bad
def cs0 (C : Calls) (elt : Ex) (m : Mu) : Option Ev → Out (Option PyData)
  | some env' => (ev C elt env' m).bind fun y m => keepO m (keepD y)
  | none => .bad
def cs1b (C : Calls) (elt : Ex) (env' : Ev) (m : Mu) : PyData → Out (Option PyData)
  | .bool true => (ev C elt env' m).bind fun y m => keepO m (keepD y)
  | .bool false => .ok none m
  | _ => .bad
def cs1 (C : Calls) (elt cond : Ex) (m : Mu) : Option Ev → Out (Option PyData)
  | some env' => (ev C cond env' m).bind fun c m => cs1b C elt env' m c.1
  | none => .bad
@[simp] theorem keepO_some {m : Mu} {d : PyData} : keepO m (some d) = .ok (some d) m := rfl
@[simp] theorem cs0_some {C : Calls} {elt : Ex} {m : Mu} {env' : Ev} : cs0 C elt m (some env') = (ev C elt env' m).bind fun y m => keepO m (keepD y) := rfl
@[simp] theorem cs1_some {C : Calls} {elt cond : Ex} {m : Mu} {env' : Ev} : cs1 C elt cond m (some env') = (ev C cond env' m).bind fun c m => cs1b C elt env' m c.1 := rfl
@[simp] theorem cs1b_b {C : Calls} {elt : Ex} {m : Mu} {env' : Ev} {k : Bool} : cs1b C elt env' m (.bool k) = if k = true then (ev C elt env' m).bind fun y m => keepO m (keepD y) else .ok none m := by cases k <;> rfl
@[simp] theorem cs1b_t {C : Calls} {elt : Ex} {m : Mu} {env' : Ev} : cs1b C elt env' m (.bool true) = (ev C elt env' m).bind fun y m => keepO m (keepD y) := rfl
@[simp] theorem cs1b_f {C : Calls} {elt : Ex} {m : Mu} {env' : Ev} : cs1b C elt env' m (.bool false) = .ok none m := rfl
theorem ev_c0 {C : Calls} {elt : Ex} {tg : Tg} {it : It} {own : List Nat} {env : Ev} {m : Mu} : ev C (.comp0 elt tg it own) env m = (evI C it env m).bind fun xs m => (lcLoop (fun x m => cs0 C elt m (bindG tg (wipeS env own) x)) xs.1 m).bind fun ds m => if sz ds.length then .ok (.list ds, .f) m else .bad := by
  rw [ev]
  congr 1
theorem ev_c1 {C : Calls} {elt cond : Ex} {tg : Tg} {it : It} {own : List Nat} {env : Ev} {m : Mu} : ev C (.comp1 elt tg it cond own) env m = (evI C it env m).bind fun xs m => (lcLoop (fun x m => cs1 C elt cond m (bindG tg (wipeS env own) x)) xs.1 m).bind fun ds m => if sz ds.length then .ok (.list ds, .f) m else .bad := by
  rw [ev]
  congr 1
theorem lc0 {α β : Type} {C : Calls} {elt : Ex} {tg : Tg} {own : List Nat} {env : Ev} {m : Mu} (l : List α) (e : α → PyData) (g : α → β) (e' : β → PyData) (hl : l.length ≤ big)
    (he : ∀ a ∈ l, cs0 C elt m (bindG tg (wipeS env own) (e a)) = .ok (some (e' (g a))) m) :
    ((lcLoop (fun x m => cs0 C elt m (bindG tg (wipeS env own) x)) (l.map e) m).bind fun ds m => if sz ds.length = true then (.ok (.list ds, .f) m : Out (PyData × Fl)) else .bad) = .ok (.list ((l.map g).map e'), .f) m := by
  rw [lc_map (e := e) (g := fun a => some (e' (g a))) he, Out.bind_ok]
  have e2 : l.filterMap (fun a => some (e' (g a))) = (l.map g).map e' := by rw [List.filterMap_eq_map', List.map_map]; rfl
  rw [e2]
  simp [sz, hl]
/-- [elt for tg in it] -/
theorem ev_comp0 {α β : Type} {C : Calls} {elt : Ex} {tg : Tg} {it : It} {own : List Nat} {env : Ev} {m : Mu} (l : List α) (e : α → PyData) (g : α → β) (e' : β → PyData) (fl : Fl)
    (hi : evI C it env m = .ok (l.map e, fl) m) (hl : l.length ≤ big)
    (he : ∀ a ∈ l, cs0 C elt m (bindG tg (wipeS env own) (e a)) = .ok (some (e' (g a))) m) :
    ev C (.comp0 elt tg it own) env m = .ok (.list ((l.map g).map e'), .f) m := by
  rw [ev_c0, hi, Out.bind_ok]
  simp only
  rw [lc_map (e := e) (g := fun a => some (e' (g a))) he, Out.bind_ok]
  have e2 : l.filterMap (fun a => some (e' (g a))) = (l.map g).map e' := by rw [List.filterMap_eq_map', List.map_map]; rfl
  rw [e2]
  simp [sz, hl]
/-- [elt for tg in it if cond] -/
theorem ev_comp1 {α β : Type} {C : Calls} {elt cond : Ex} {tg : Tg} {it : It} {own : List Nat} {env : Ev} {m : Mu} (l : List α) (e : α → PyData) (p : α → Bool) (g : α → β) (e' : β → PyData) (fl : Fl)
    (hi : evI C it env m = .ok (l.map e, fl) m) (hl : l.length ≤ big)
    (he : ∀ a ∈ l, cs1 C elt cond m (bindG tg (wipeS env own) (e a)) = .ok (if p a then some (e' (g a)) else none) m) :
    ev C (.comp1 elt tg it cond own) env m = .ok (.list (((l.filter p).map g).map e'), .f) m := by
  rw [ev_c1, hi, Out.bind_ok]
  simp only
  rw [lc_map (e := e) (g := fun a => if p a then some (e' (g a)) else none) he, Out.bind_ok]
  have e2 : l.filterMap (fun a => if p a then some (e' (g a)) else none) = ((l.filter p).map g).map e' := by
    clear he hi hl
    induction l with
    | nil => rfl
    | cons a l ih => by_cases h : p a <;> simp [h, ih]
  rw [e2]
  have h2 : (((l.filter p).map g).map e').length ≤ big := by simp only [List.length_map]; exact Nat.le_trans (List.length_filter_le _ _) hl
  simp only [sz, h2, decide_true, if_true]
end Tw
set_option Elab.async false
set_option linter.all false
/-! Rows, orders, spots: plain mathematics. -/
namespace Tw
/-- the values of r at the places l -/
def pk (r l : List Nat) : List Nat := l.map fun i => r.getD i 0
/-- each value once -/
def dd : List Nat → List Nat
  | [] => []
  | x :: xs => if x ∈ dd xs then dd xs else x :: dd xs
theorem mem_dd {x : Nat} : ∀ {l : List Nat}, x ∈ dd l ↔ x ∈ l
  | [] => by simp [dd]
  | a :: l => by
    rw [dd]
    have ih := @mem_dd x l
    have ih2 := @mem_dd a l
    split <;> rename_i h
    · simp only [ih, List.mem_cons]
      exact ⟨.inr, fun h' => h'.elim (fun e => by rw [e]; exact ih2.mp h) id⟩
    · simp [ih]
theorem nodup_dd : ∀ l : List Nat, (dd l).Nodup
  | [] => by simp [dd]
  | a :: l => by
    rw [dd]; split <;> rename_i h
    · exact nodup_dd l
    · exact List.nodup_cons.mpr ⟨h, nodup_dd l⟩
theorem dd_filter (p : Nat → Bool) : ∀ l : List Nat, dd (l.filter p) = (dd l).filter p
  | [] => rfl
  | a :: l => by
    by_cases hp : p a
    · rw [List.filter_cons_of_pos hp, dd, dd, dd_filter p l]
      by_cases h : a ∈ dd l
      · rw [if_pos h, if_pos (by simp [h, hp])]
      · rw [if_neg h, if_neg (by simp [h]), List.filter_cons_of_pos hp]
    · rw [List.filter_cons_of_neg hp, dd, dd_filter p l]
      by_cases h : a ∈ dd l
      · rw [if_pos h]
      · rw [if_neg h, List.filter_cons_of_neg hp]
def insN (x : Nat) : List Nat → List Nat
  | [] => [x]
  | y :: ys => if y < x then y :: insN x ys else x :: y :: ys
def sortN : List Nat → List Nat
  | [] => []
  | x :: xs => insN x (sortN xs)
theorem insN_perm (x : Nat) : ∀ l, (insN x l).Perm (x :: l)
  | [] => .refl _
  | y :: ys => by
    rw [insN]; split
    · exact ((insN_perm x ys).cons y).trans (.swap x y ys)
    · exact .refl _
theorem sortN_perm : ∀ l, (sortN l).Perm l
  | [] => .refl _
  | x :: xs => (insN_perm x (sortN xs)).trans ((sortN_perm xs).cons x)
theorem insN_sorted (x : Nat) : ∀ l : List Nat, l.Pairwise (· ≤ ·) → (insN x l).Pairwise (· ≤ ·)
  | [], _ => by simp [insN]
  | y :: ys, h => by
    rw [insN]
    obtain ⟨h1, h2⟩ := List.pairwise_cons.mp h
    split <;> rename_i hlt
    · refine List.pairwise_cons.mpr ⟨fun z hz => ?_, insN_sorted x ys h2⟩
      rcases List.mem_cons.mp ((insN_perm x ys).mem_iff.mp hz) with e | hz
      · omega
      · exact h1 z hz
    · refine List.pairwise_cons.mpr ⟨fun z hz => ?_, h⟩
      rcases List.mem_cons.mp hz with e | hz
      · omega
      · have := h1 z hz; omega
theorem sortN_sorted : ∀ l, (sortN l).Pairwise (· ≤ ·)
  | [] => by simp [sortN]
  | x :: xs => insN_sorted x _ (sortN_sorted xs)
theorem mem_sortN {x : Nat} {l : List Nat} : x ∈ sortN l ↔ x ∈ l := (sortN_perm l).mem_iff
theorem length_sortN (l : List Nat) : (sortN l).length = l.length := (sortN_perm l).length_eq
theorem sorted_unique {a b : List Nat} (ha : a.Pairwise (· ≤ ·)) (hb : b.Pairwise (· ≤ ·)) (h : a.Perm b) : a = b := h.eq_of_pairwise (le := (· ≤ ·)) (fun _ _ _ _ h1 h2 => Nat.le_antisymm h1 h2) ha hb
theorem sortN_eq_iff {a b : List Nat} : sortN a = sortN b ↔ a.Perm b :=
  ⟨fun h => (sortN_perm a).symm.trans (h ▸ sortN_perm b), fun h => sorted_unique (sortN_sorted _) (sortN_sorted _) ((sortN_perm a).trans (h.trans (sortN_perm b).symm))⟩
/-- the values, ascending, each once -/
def dist (l : List Nat) : List Nat := sortN (dd l)
theorem mem_dist {x : Nat} {l : List Nat} : x ∈ dist l ↔ x ∈ l := mem_sortN.trans mem_dd
theorem dist_lt (l : List Nat) : (dist l).Pairwise (· < ·) := by
  have h1 := sortN_sorted (dd l)
  have h2 : (dist l).Nodup := (sortN_perm (dd l)).nodup_iff.mpr (nodup_dd l)
  have h3 := List.nodup_iff_pairwise_ne.mp h2
  exact (List.Pairwise.and h1 h3).imp fun h => by omega
theorem lt_unique {a b : List Nat} (ha : a.Pairwise (· < ·)) (hb : b.Pairwise (· < ·)) (h : ∀ x, x ∈ a ↔ x ∈ b) : a = b := by
  refine sorted_unique (ha.imp Nat.le_of_lt) (hb.imp Nat.le_of_lt) ((List.perm_ext_iff_of_nodup ?_ ?_).mpr h)
  · exact List.nodup_iff_pairwise_ne.mpr (ha.imp fun h => by omega)
  · exact List.nodup_iff_pairwise_ne.mpr (hb.imp fun h => by omega)
/-- how many values of l are less than x, each counted once -/
def rk (l : List Nat) (x : Nat) : Nat := (dd (l.filter (· < x))).length
theorem rk_nil (x : Nat) : rk [] x = 0 := rfl
theorem rk_cons (a x : Nat) (l : List Nat) : rk (a :: l) x = if a < x ∧ a ∉ l then rk l x + 1 else rk l x := by
  unfold rk
  by_cases h : a < x
  · rw [List.filter_cons_of_pos (by simpa using h), dd]
    by_cases h2 : a ∈ l
    · rw [if_pos (by rw [mem_dd]; simp [h, h2]), if_neg (by simp [h2])]
    · rw [if_neg (by rw [mem_dd]; simp [h2]), if_pos ⟨h, h2⟩]; rfl
  · rw [List.filter_cons_of_neg (by simpa using h), if_neg (by simp [h])]
theorem rk_le {x y : Nat} (h : x ≤ y) : ∀ l, rk l x ≤ rk l y
  | [] => Nat.le_refl _
  | a :: l => by
    have := rk_le h l
    rw [rk_cons, rk_cons]
    by_cases hm : a ∈ l
    · simpa [hm] using this
    · simp only [hm, not_false_eq_true, and_true]
      repeat' split
      all_goals omega
theorem rk_lt {x y : Nat} (h : x < y) : ∀ l, x ∈ l → rk l x < rk l y
  | [], hx => by simp at hx
  | a :: l, hx => by
    rw [rk_cons, rk_cons]
    by_cases hl : x ∈ l
    · have := rk_lt h l hl
      by_cases hm : a ∈ l
      · simpa [hm] using this
      · simp only [hm, not_false_eq_true, and_true]
        repeat' split
        all_goals omega
    · have e : x = a := by simpa [hl] using hx
      have := rk_le (Nat.le_of_lt h) l
      subst e
      rw [if_neg (by omega), if_pos ⟨h, hl⟩]; omega
theorem rk_lt_iff {x y : Nat} {l : List Nat} (hx : x ∈ l) (hy : y ∈ l) : rk l x < rk l y ↔ x < y :=
  ⟨fun h => by
    rcases Nat.lt_or_ge x y with h1 | h1
    · exact h1
    · have := rk_le h1 l; omega, fun h => rk_lt h l hx⟩
/-- the row in whose order numbers lie -/
def lieL (l : List Nat) : List Nat := l.map (rk l)
@[simp] theorem length_lieL (l : List Nat) : (lieL l).length = l.length := by simp [lieL]
/-- two lists of the same order -/
def Iso (a b : List Nat) : Prop := ∃ l : List (Nat × Nat), a = l.map (·.1) ∧ b = l.map (·.2) ∧ ∀ p ∈ l, ∀ q ∈ l, (p.1 < q.1 ↔ p.2 < q.2)
theorem Iso.symm {a b : List Nat} (h : Iso a b) : Iso b a := by
  obtain ⟨l, e1, e2, h⟩ := h
  refine ⟨l.map fun p => (p.2, p.1), ?_, ?_, ?_⟩
  · rw [e2, List.map_map]; rfl
  · rw [e1, List.map_map]; rfl
  · intro p hp q hq
    obtain ⟨p', hp', rfl⟩ := List.mem_map.mp hp
    obtain ⟨q', hq', rfl⟩ := List.mem_map.mp hq
    exact (h p' hp' q' hq').symm
theorem Iso.refl (a : List Nat) : Iso a a := ⟨a.map fun x => (x, x), by simp [Function.comp_def], by simp [Function.comp_def], by
  intro p hp q hq
  obtain ⟨p', hp', rfl⟩ := List.mem_map.mp hp
  obtain ⟨q', hq', rfl⟩ := List.mem_map.mp hq
  exact Iff.rfl⟩
theorem iso_lie (a : List Nat) : Iso a (lieL a) := ⟨a.map fun x => (x, rk a x), by simp [Function.comp_def], by simp [lieL, Function.comp_def], by
  intro p hp q hq
  obtain ⟨p', hp', rfl⟩ := List.mem_map.mp hp
  obtain ⟨q', hq', rfl⟩ := List.mem_map.mp hq
  exact (rk_lt_iff hp' hq').symm⟩
theorem rk_iso {x y : Nat} : ∀ l : List (Nat × Nat), (∀ p ∈ l, ∀ q ∈ l, (p.1 < q.1 ↔ p.2 < q.2)) → (∀ p ∈ l, (p.1 < x ↔ p.2 < y)) → rk (l.map (·.1)) x = rk (l.map (·.2)) y
  | [], _, _ => rfl
  | a :: l, h, hx => by
    rw [List.map_cons, List.map_cons, rk_cons, rk_cons, rk_iso l (fun p hp q hq => h p (by simp [hp]) q (by simp [hq])) (fun p hp => hx p (by simp [hp]))]
    have e1 : (a.1 ∈ l.map (·.1)) ↔ (a.2 ∈ l.map (·.2)) := by
      simp only [List.mem_map]
      constructor
      · rintro ⟨p, hp, e⟩
        refine ⟨p, hp, ?_⟩
        have h1 := h a (by simp) p (by simp [hp]); have h2 := h p (by simp [hp]) a (by simp); omega
      · rintro ⟨p, hp, e⟩
        refine ⟨p, hp, ?_⟩
        have h1 := h a (by simp) p (by simp [hp]); have h2 := h p (by simp [hp]) a (by simp); omega
    have e2 := hx a (by simp)
    simp only [e1, e2]
theorem Iso.lie {a b : List Nat} (h : Iso a b) : lieL a = lieL b := by
  obtain ⟨l, e1, e2, h⟩ := h
  have : ∀ p ∈ l, rk a p.1 = rk b p.2 := fun p hp => by rw [e1, e2]; exact rk_iso l h fun q hq => h q hq p hp
  unfold lieL
  rw [e1, e2, List.map_map, List.map_map, ← e1, ← e2]
  exact List.map_congr_left this
theorem lie_lie (a : List Nat) : lieL (lieL a) = lieL a := ((iso_lie a).lie).symm
theorem Iso.pk {a b l : List Nat} (h : Iso a b) (hl : ∀ i ∈ l, i < a.length) : Iso (pk a l) (pk b l) := by
  obtain ⟨z, e1, e2, h⟩ := h
  refine ⟨l.map fun i => z.getD i (0, 0), ?_, ?_, ?_⟩
  · unfold Tw.pk
    rw [List.map_map]
    refine List.map_congr_left fun i hi => ?_
    have : i < z.length := by have := hl i hi; rw [e1] at this; simpa using this
    simp [e1, List.getD, this]
  · unfold Tw.pk
    rw [List.map_map]
    refine List.map_congr_left fun i hi => ?_
    have : i < z.length := by have := hl i hi; rw [e1] at this; simpa using this
    simp [e2, List.getD, this]
  · intro p hp q hq
    obtain ⟨i, hi, rfl⟩ := List.mem_map.mp hp
    obtain ⟨j, hj, rfl⟩ := List.mem_map.mp hq
    have h1 : i < z.length := by have := hl i hi; rw [e1] at this; simpa using this
    have h2 : j < z.length := by have := hl j hj; rw [e1] at this; simpa using this
    refine h _ ?_ _ ?_
    · simp [List.getD, h1]
    · simp [List.getD, h2]
@[simp] theorem length_pk (a l : List Nat) : (pk a l).length = l.length := by simp [pk]
theorem lie_pk {a l : List Nat} (hl : ∀ i ∈ l, i < a.length) : lieL (pk (lieL a) l) = lieL (pk a l) := (((iso_lie a).pk hl).lie).symm
theorem pk_pk {a l k : List Nat} (hk : ∀ i ∈ k, i < l.length) : pk a (pk l k) = pk (pk a l) k := by
  unfold pk
  rw [List.map_map]
  refine List.map_congr_left fun i hi => ?_
  have := hk i hi
  simp [List.getD, this]
/-! ### places -/
def spots (many : Nat) : Nat → List (List Nat)
  | 0 => [[]]
  | k + 1 => (spots many k).flatMap fun l => (List.range' (match l.getLast? with | some x => x + 1 | none => 0) (many - (match l.getLast? with | some x => x + 1 | none => 0))).map fun i => l ++ [i]
theorem mem_spots {many : Nat} : ∀ {k : Nat} {l : List Nat}, l ∈ spots many k ↔ l.length = k ∧ l.Pairwise (· < ·) ∧ ∀ x ∈ l, x < many
  | 0, l => by
    simp only [spots, List.mem_singleton, List.length_eq_zero_iff]
    exact ⟨fun h => by subst h; simp, fun h => h.1⟩
  | k + 1, l => by
    simp only [spots, List.mem_flatMap, List.mem_map, List.mem_range'_1]
    constructor
    · rintro ⟨l', h', i, ⟨h1, h2⟩, rfl⟩
      obtain ⟨e, p, b⟩ := mem_spots.mp h'
      have hi : ∀ x ∈ l', x < i := by
        intro x hx
        cases hg : l'.getLast? with
        | none => rw [List.getLast?_eq_none_iff] at hg; subst hg; simp at hx
        | some z =>
          rw [hg] at h1
          simp only at h1
          obtain ⟨l2, rfl⟩ := List.getLast?_eq_some_iff.mp hg
          rcases List.mem_append.mp hx with hx | hx
          · have := (List.pairwise_append.mp p).2.2 x hx z (by simp); omega
          · have : x = z := by simpa using hx
            omega
      refine ⟨by simp [e], List.pairwise_append.mpr ⟨p, by simp, by simpa using hi⟩, fun x hx => ?_⟩
      rcases List.mem_append.mp hx with hx | hx
      · exact b x hx
      · have : x = i := by simpa using hx
        omega
    · rintro ⟨e, p, b⟩
      have hne : l ≠ [] := fun h => by subst h; simp at e
      obtain ⟨l', i, rfl⟩ : ∃ l' i, l = l' ++ [i] := ⟨l.dropLast, l.getLast hne, (List.dropLast_concat_getLast hne).symm⟩
      obtain ⟨p1, _, p3⟩ := List.pairwise_append.mp p
      have hb : i < many := b i (by simp)
      refine ⟨l', mem_spots.mpr ⟨by simpa using e, p1, fun x hx => b x (by simp [hx])⟩, i, ?_, rfl⟩
      cases hg : l'.getLast? with
      | none => simp; omega
      | some z =>
        obtain ⟨l2, rfl⟩ := List.getLast?_eq_some_iff.mp hg
        have := p3 z (by simp) i (by simp)
        simp only
        omega
theorem pk_spots {many n k : Nat} {l l' : List Nat} (h : l ∈ spots many n) (h' : l' ∈ spots n k) : pk l l' ∈ spots many k := by
  obtain ⟨e, p, b⟩ := mem_spots.mp h
  obtain ⟨e', p', b'⟩ := mem_spots.mp h'
  refine mem_spots.mpr ⟨by simp [e'], ?_, ?_⟩
  · unfold pk
    refine List.pairwise_map.mpr (p'.imp_of_mem fun {i j} hi hj hij => ?_)
    have h1 := b' i hi; have h2 := b' j hj
    rw [← e] at h1 h2
    have := List.pairwise_iff_getElem.mp p i j h1 h2 hij
    simpa [List.getD, h1, h2] using this
  · intro x hx
    obtain ⟨i, hi, rfl⟩ := List.mem_map.mp hx
    have h1 := b' i hi
    rw [← e] at h1
    refine b _ ?_
    simp [List.getD, h1]
theorem length_spots (many : Nat) : ∀ k, (spots many k).length ≤ many ^ k
  | 0 => by simp [spots]
  | k + 1 => by
    have h : ∀ L : List (List Nat), (L.flatMap fun l => (List.range' (match l.getLast? with | some x => x + 1 | none => 0) (many - (match l.getLast? with | some x => x + 1 | none => 0))).map fun i => l ++ [i]).length ≤ L.length * many := by
      intro L
      induction L with
      | nil => simp
      | cons a L ih =>
        rw [List.flatMap_cons, List.length_append, List.length_map, List.length_range', List.length_cons, Nat.add_mul, Nat.one_mul]
        have := Nat.sub_le many (match a.getLast? with | some x => x + 1 | none => 0)
        omega
    refine Nat.le_trans (h _) ?_
    rw [Nat.pow_succ]
    exact Nat.mul_le_mul_right _ (length_spots many k)
/-! ### rows at rest -/
abbrev Rule := List Nat × List Nat
/-- a rule can be done at l -/
def fitsAt (o r l : List Nat) : Bool := lieL (pk r l) == o
def liesIn (o r : List Nat) : Bool := (spots r.length o.length).any (fitsAt o r)
def calm (b : List Rule) (r : List Nat) : Bool := b.all fun p => !liesIn p.1 r
theorem liesIn_iff {o r : List Nat} : liesIn o r = true ↔ ∃ l ∈ spots r.length o.length, lieL (pk r l) = o := by simp [liesIn, fitsAt]
theorem liesIn_trans {o q r : List Nat} (h : liesIn o q = true) (h' : liesIn q r = true) : liesIn o r = true := by
  obtain ⟨l, hl, e⟩ := liesIn_iff.mp h
  obtain ⟨l', hl', e'⟩ := liesIn_iff.mp h'
  have hb := (mem_spots.mp hl).2.2
  have hc := (mem_spots.mp hl').1
  refine liesIn_iff.mpr ⟨pk l' l, pk_spots hl' hl, ?_⟩
  have hk : ∀ i ∈ l, i < (pk r l').length := fun i hi => by rw [length_pk, hc]; exact hb i hi
  rw [pk_pk (by rw [hc]; exact hb), ← lie_pk hk, e', e]
theorem calm_of {b o : List Rule} {r : List Nat} (hb : calm b r = true) (h : ∀ p ∈ o, calm b p.1 = false) : calm o r = true := by
  unfold calm
  rw [List.all_eq_true]
  intro p hp
  cases hl : liesIn p.1 r with
  | false => rfl
  | true =>
    have h1 := h p hp
    unfold calm at h1
    obtain ⟨q, hq, hq2⟩ := List.all_eq_false.mp h1
    have h2 : liesIn q.1 p.1 = true := by simpa using hq2
    have h3 := liesIn_trans h2 hl
    unfold calm at hb
    have := List.all_eq_true.mp hb q hq
    rw [h3] at this
    cases this
end Tw
set_option Elab.async false
set_option linter.all false
/-! Rows, rules, books: the lists of them. -/
namespace Tw
def tuples (n : Nat) : Nat → List (List Nat)
  | 0 => [[]]
  | k + 1 => (tuples n k).flatMap fun l => (List.range n).map fun i => l ++ [i]
theorem mem_tuples {n : Nat} : ∀ {k : Nat} {l : List Nat}, l ∈ tuples n k ↔ l.length = k ∧ ∀ x ∈ l, x < n
  | 0, l => by
    simp only [tuples, List.mem_singleton, List.length_eq_zero_iff]
    exact ⟨fun h => by subst h; simp, fun h => h.1⟩
  | k + 1, l => by
    simp only [tuples, List.mem_flatMap, List.mem_map, List.mem_range]
    constructor
    · rintro ⟨l', h', i, hi, rfl⟩
      obtain ⟨e, b⟩ := mem_tuples.mp h'
      refine ⟨by simp [e], fun x hx => ?_⟩
      rcases List.mem_append.mp hx with hx | hx
      · exact b x hx
      · have : x = i := by simpa using hx
        omega
    · rintro ⟨e, b⟩
      have hne : l ≠ [] := fun h => by subst h; simp at e
      obtain ⟨l', i, rfl⟩ : ∃ l' i, l = l' ++ [i] := ⟨l.dropLast, l.getLast hne, (List.dropLast_concat_getLast hne).symm⟩
      exact ⟨l', mem_tuples.mpr ⟨by simpa using e, fun x hx => b x (by simp [hx])⟩, i, b i (by simp), rfl⟩
theorem length_tuples (n : Nat) : ∀ k, (tuples n k).length = n ^ k
  | 0 => by simp [tuples]
  | k + 1 => by
    have h : ∀ L : List (List Nat), (L.flatMap fun l => (List.range n).map fun i => l ++ [i]).length = L.length * n := by
      intro L
      induction L with
      | nil => simp
      | cons a L ih => rw [List.flatMap_cons, List.length_append, List.length_map, List.length_range, List.length_cons, ih, Nat.add_mul, Nat.one_mul, Nat.add_comm]
    rw [tuples, h, length_tuples n k, Nat.pow_succ]
def IsRow (r : List Nat) : Prop := lieL r = r
instance (r : List Nat) : Decidable (IsRow r) := inferInstanceAs (Decidable (_ = _))
theorem length_dd_le : ∀ l : List Nat, (dd l).length ≤ l.length
  | [] => Nat.le_refl _
  | a :: l => by
    have := length_dd_le l
    rw [dd]; split <;> simp <;> omega
theorem rk_lt_length {l : List Nat} {x : Nat} (h : x ∈ l) : rk l x < l.length := by
  have h1 := length_dd_le (l.filter (· < x))
  have h2 : (l.filter (· < x)).length < l.length := by
    rw [← List.countP_eq_length_filter]
    refine Nat.lt_of_le_of_ne List.countP_le_length fun e => ?_
    have := List.countP_eq_length.mp e x h
    simp at this
  unfold rk; omega
theorem IsRow.lt {r : List Nat} (h : IsRow r) : ∀ x ∈ r, x < r.length := fun x hx => by
  rw [← h] at hx
  obtain ⟨y, hy, rfl⟩ := List.mem_map.mp hx
  exact rk_lt_length hy
theorem IsRow.rk {r : List Nat} (h : IsRow r) {x : Nat} (hx : x ∈ r) : rk r x = x := by
  have : ∀ (l : List Nat) (f : Nat → Nat), l.map f = l → ∀ x ∈ l, f x = x := by
    intro l f
    induction l with
    | nil => intro _ x hx; simp at hx
    | cons a l ih =>
      intro e x hx
      simp only [List.map_cons, List.cons.injEq] at e
      rcases List.mem_cons.mp hx with rfl | hx
      · exact e.1
      · exact ih e.2 x hx
  exact this r _ h x hx
theorem isRow_lie (l : List Nat) : IsRow (lieL l) := lie_lie l
/-- ranks of a strictly rising list -/
theorem idxOf_lt {x : Nat} : ∀ {s : List Nat}, s.Pairwise (· < ·) → x ∈ s → s.idxOf x = (s.filter (· < x)).length
  | [], _, h => by simp at h
  | a :: s, p, h => by
    obtain ⟨p1, p2⟩ := List.pairwise_cons.mp p
    by_cases e : a = x
    · subst e
      have : s.filter (· < a) = [] := by
        rw [List.filter_eq_nil_iff]
        intro b hb
        have := p1 b hb
        simp; omega
      simp [List.idxOf_cons, this]
    · have hx : x ∈ s := by simpa [Ne.symm e] using h
      have := p1 x hx
      rw [List.idxOf_cons, List.filter_cons_of_pos (by simpa using this)]
      have e' : (a == x) = false := by simpa using e
      simp [e', idxOf_lt p2 hx]
theorem rk_eq_idx {l : List Nat} {x : Nat} (h : x ∈ l) : (dist l).idxOf x = rk l x := by
  rw [idxOf_lt (dist_lt l) (mem_dist.mpr h)]
  unfold rk
  rw [dd_filter]
  exact ((sortN_perm (dd l)).filter _).length_eq
theorem lie_idx (l : List Nat) : l.map (dist l).idxOf = lieL l := List.map_congr_left fun x hx => rk_eq_idx hx
/-- the program's own look at a row -/
theorem isRow_iff (r : List Nat) : IsRow r ↔ dist r = List.range (dd r).length := by
  have hlen : (dist r).length = (dd r).length := length_sortN _
  constructor
  · intro h
    refine List.ext_getElem (by rw [hlen, List.length_range]) fun i h1 h2 => ?_
    have hm : (dist r)[i] ∈ r := mem_dist.mp (List.getElem_mem h1)
    have e1 := rk_eq_idx hm
    rw [h.rk hm] at e1
    have nd : (dist r).Nodup := List.nodup_iff_pairwise_ne.mpr ((dist_lt r).imp fun h => by omega)
    have e2 : (dist r).idxOf (dist r)[i] = i := nd.idxOf_getElem i h1
    rw [List.getElem_range]
    omega
  · intro h
    unfold IsRow lieL
    have : ∀ x ∈ r, rk r x = id x := fun x hx => by
      have hd := mem_dist.mpr hx
      rw [← rk_eq_idx hx, h]
      rw [h] at hd
      rw [idxOf_lt List.pairwise_lt_range hd]
      have hx2 := List.mem_range.mp hd
      have : (List.range (dd r).length).filter (· < x) = List.range x := by
        refine lt_unique (List.pairwise_lt_range.filter _) List.pairwise_lt_range fun y => ?_
        simp; omega
      rw [this]; simp
    rw [List.map_congr_left this]; simp
def rowsL (n : Nat) : List (List Nat) := (tuples n n).filter fun r => decide (IsRow r)
theorem mem_rowsL {n : Nat} {r : List Nat} : r ∈ rowsL n ↔ r.length = n ∧ IsRow r := by
  unfold rowsL
  rw [List.mem_filter, mem_tuples]
  constructor
  · rintro ⟨⟨h1, _⟩, h2⟩; exact ⟨h1, of_decide_eq_true h2⟩
  · rintro ⟨h1, h2⟩; exact ⟨⟨h1, fun x hx => h1 ▸ h2.lt x hx⟩, decide_eq_true h2⟩
structure IsRule (p : Rule) : Prop where
  lo : 2 ≤ p.1.length
  hi : p.1.length ≤ 4
  row : IsRow p.1
  perm : p.1.Perm p.2
  ne : p.1 ≠ p.2
def rulesN (n : Nat) : List Rule := (rowsL n).flatMap fun b => ((tuples n n).filter fun a => sortN a == sortN b && a != b).map fun a => (b, a)
def rules4 : List Rule := rulesN 2 ++ (rulesN 3 ++ rulesN 4)
theorem mem_rulesN {n : Nat} {p : Rule} : p ∈ rulesN n ↔ p.1.length = n ∧ IsRow p.1 ∧ p.1.Perm p.2 ∧ p.1 ≠ p.2 := by
  obtain ⟨b, a⟩ := p
  unfold rulesN
  simp only [List.mem_flatMap, List.mem_map, List.mem_filter, mem_rowsL, mem_tuples, Prod.mk.injEq]
  constructor
  · rintro ⟨b', ⟨h1, h2⟩, a', ⟨⟨h3, h4⟩, h5⟩, rfl, rfl⟩
    simp only [Bool.and_eq_true, beq_iff_eq, bne_iff_ne, ne_eq] at h5
    exact ⟨h1, h2, (sortN_eq_iff.mp h5.1).symm, fun e => h5.2 e.symm⟩
  · rintro ⟨h1, h2, h3, h4⟩
    refine ⟨b, ⟨h1, h2⟩, a, ⟨⟨h3.length_eq ▸ h1, fun x hx => h1 ▸ h2.lt x (h3.mem_iff.mpr hx)⟩, ?_⟩, rfl, rfl⟩
    simp only [Bool.and_eq_true, beq_iff_eq, bne_iff_ne, ne_eq]
    exact ⟨sortN_eq_iff.mpr h3.symm, fun e => h4 e.symm⟩
theorem mem_rules4 {p : Rule} : p ∈ rules4 ↔ IsRule p := by
  unfold rules4
  rw [List.mem_append, List.mem_append, mem_rulesN, mem_rulesN, mem_rulesN]
  constructor
  · rintro (⟨h1, h2, h3, h4⟩ | ⟨h1, h2, h3, h4⟩ | ⟨h1, h2, h3, h4⟩) <;> exact ⟨by omega, by omega, h2, h3, h4⟩
  · rintro ⟨h1, h2, h3, h4, h5⟩
    rcases (by omega : p.1.length = 2 ∨ p.1.length = 3 ∨ p.1.length = 4) with e | e | e <;> simp [e, h3, h4, h5]
end Tw
set_option Elab.async false
set_option linter.all false
set_option maxRecDepth 100000
set_option maxHeartbeats 4000000
/-! Data of rows, rules, books. -/
namespace Tw
open PySem
abbrev nD (n : Nat) : PyData := .int n
abbrev rD (r : List Nat) : PyData := .tuple (r.map nD)
abbrev uD (p : Rule) : PyData := .tuple [rD p.1, rD p.2]
abbrev bD (b : List Rule) : PyData := .tuple (b.map uD)
/-! ### what == looks through -/
def Pn (k : Nat) (d : PyData) : Prop := noB d = true ∧ PyData.canLay0 d = true ∧ PyData.depth d ≤ k
theorem Pn.plain {k : Nat} {d : PyData} (h : Pn k d) (hk : k ≤ 64) : plainD d = true := by
  obtain ⟨h1, h2, h3⟩ := h
  have : PyData.depth d ≤ 64 := by omega
  simp [plainD, SeqAt.shaped, h1, h2, this]
@[simp] theorem Pn_int {k : Nat} {i : Int} : Pn k (.int i) := ⟨rfl, rfl, Nat.zero_le _⟩
@[simp] theorem Pn_none {k : Nat} : Pn k .none := ⟨rfl, rfl, Nat.zero_le _⟩
theorem Pn_all {k : Nat} : ∀ {xs : List PyData}, (∀ x ∈ xs, Pn k x) → noBs xs = true ∧ PyData.canLayAll0 xs = true ∧ PyData.depthAll xs ≤ k
  | [], _ => ⟨rfl, rfl, Nat.zero_le _⟩
  | x :: xs, h => by
    obtain ⟨h1, h2, h3⟩ := h x (by simp)
    obtain ⟨h4, h5, h6⟩ := Pn_all (xs := xs) fun y hy => h y (by simp [hy])
    refine ⟨by simp [noBs, h1, h4], by simp [PyData.canLayAll0, h2, h5], ?_⟩
    simp only [PyData.depthAll]; omega
@[simp] theorem Pn_tuple {k : Nat} {xs : List PyData} : Pn (k + 1) (.tuple xs) ↔ ∀ x ∈ xs, Pn k x := by
  constructor
  · rintro ⟨g1, g2, g3⟩
    have h3 : PyData.depthAll xs ≤ k := by simpa [PyData.depth] using g3
    have h1 : noBs xs = true := g1
    have h2 : PyData.canLayAll0 xs = true := g2
    intro x hx
    clear g1 g2 g3
    induction xs with
    | nil => simp at hx
    | cons a xs ih =>
      simp only [noBs, Bool.and_eq_true] at h1
      simp only [PyData.canLayAll0, Bool.and_eq_true] at h2
      simp only [PyData.depthAll] at h3
      rcases List.mem_cons.mp hx with rfl | hx
      · exact ⟨h1.1, h2.1, by omega⟩
      · exact ih (by omega) h1.2 h2.2 hx
  · intro h
    obtain ⟨h1, h2, h3⟩ := Pn_all h
    exact ⟨h1, h2, by simp [PyData.depth, h3]⟩
@[simp] theorem Pn_list {k : Nat} {xs : List PyData} : Pn (k + 1) (.list xs) ↔ ∀ x ∈ xs, Pn k x := by
  rw [← Pn_tuple]; exact ⟨fun ⟨a, b, c⟩ => ⟨a, b, c⟩, fun ⟨a, b, c⟩ => ⟨a, b, c⟩⟩
theorem Pn_mono {k n : Nat} {d : PyData} (h : Pn k d) (hk : k ≤ n) : Pn n d := ⟨h.1, h.2.1, by have := h.2.2; omega⟩
@[simp] theorem Pn_rD {k : Nat} {r : List Nat} : Pn (k + 1) (rD r) := by simp
@[simp] theorem Pn_uD {k : Nat} {p : Rule} : Pn (k + 2) (uD p) := by simp
@[simp] theorem Pn_bD {k : Nat} {b : List Rule} : Pn (k + 3) (bD b) := by rw [Pn_tuple]; intro x hx; obtain ⟨p, _, rfl⟩ := List.mem_map.mp hx; exact Pn_uD
theorem eqD_plain {a b : PyData} (ha : plainD a = true) (hb : plainD b = true) : eqD a b = some (decide (a = b)) := by
  simp only [plainD, Bool.and_eq_true] at ha hb
  have e : beqD a b = decide (a = b) := by
    by_cases h : a = b
    · simp [h, (beqD_iff b b).mpr rfl]
    · have : beqD a b ≠ true := fun h' => h ((beqD_iff a b).mp h')
      simp [h, this]
  unfold eqD
  split
  · simp [noB] at ha
  · simp [ha, hb, e]
theorem eqD_Pn {k : Nat} {a b : PyData} (ha : Pn k a) (hb : Pn k b) (hk : k ≤ 64) : eqD a b = some (decide (a = b)) := eqD_plain (ha.plain hk) (hb.plain hk)
@[simp] theorem eqD_int {a b : Int} : eqD (.int a) (.int b) = some (decide (a = b)) := by rw [eqD_Pn (k := 0) (by simp) (by simp) (by omega)]; simp
@[simp] theorem eqD_bool {a b : Bool} : eqD (.bool a) (.bool b) = some (a == b) := rfl
theorem nD_inj {a b : Nat} : nD a = nD b ↔ a = b := ⟨fun h => by injection h; omega, fun h => by rw [h]⟩
@[simp] theorem ofNat_inj {a b : Nat} : ((a : Int) = (b : Int)) ↔ a = b := by omega
theorem map_inj {α β : Type} {f : α → β} (hf : ∀ a b, f a = f b → a = b) : ∀ {l l' : List α}, l.map f = l'.map f ↔ l = l'
  | [], l' => by cases l' <;> simp
  | a :: l, l' => by
    cases l' with
    | nil => simp
    | cons b l' => simp [map_inj hf (l := l) (l' := l')]; exact fun _ => ⟨hf a b, fun h => h ▸ rfl⟩
@[simp] theorem rD_inj {r s : List Nat} : r.map nD = s.map nD ↔ r = s := map_inj fun a b h => nD_inj.mp h
@[simp] theorem uD_inj {p q : Rule} : uD p = uD q ↔ p = q := by
  obtain ⟨a, b⟩ := p; obtain ⟨c, d⟩ := q; simp
@[simp] theorem eqD_rD {r s : List Nat} : eqD (.tuple (r.map nD)) (.tuple (s.map nD)) = some (decide (r = s)) := by
  rw [eqD_Pn (k := 1) (by simp) (by simp) (by omega)]; simp
@[simp] theorem eqD_rows {r s : List Nat} : eqD (.list (r.map nD)) (.list (s.map nD)) = some (decide (r = s)) := by
  rw [eqD_Pn (k := 1) (by simp) (by simp) (by omega)]; simp
@[simp] theorem eqD_rD0 {r : List Nat} : eqD (.tuple (r.map nD)) (.tuple []) = some (decide (r = [])) := eqD_rD (s := [])
@[simp] theorem eqD_nn : eqD (.list []) (.list []) = some true := rfl
@[simp] theorem eqD_rows0 {r : List Nat} : eqD (.list (r.map nD)) (.list []) = some (decide (r = [])) := eqD_rows (s := [])
theorem eqD_nil {k : Nat} {xs : List PyData} (h : ∀ x ∈ xs, Pn k x) (hk : k < 64) : eqD (.list xs) (.list []) = some xs.isEmpty := by
  rw [eqD_Pn (k := k + 1) (by simpa using h) (by simp) (by omega)]
  cases xs <;> simp
/-! ### operations -/
@[simp] theorem cmp_eq {a b : PyData} : cmpD .eq a b = eqD a b := rfl
@[simp] theorem cmp_ne {a b : PyData} : cmpD .ne a b = (eqD a b).map (!·) := rfl
@[simp] theorem cmp_lt {a b : Int} : cmpD .lt (.int a) (.int b) = some (decide (a < b)) := rfl
@[simp] theorem cmp_gt {a b : Int} : cmpD .gt (.int a) (.int b) = some (decide (b < a)) := rfl
@[simp] theorem cmp_le {a b : Int} : cmpD .le (.int a) (.int b) = some (decide (a ≤ b)) := by
  show (if alikeU (.int a) (.int b) then some (!ltD (.int b) (.int a)) else none) = _
  rw [if_pos (by rfl)]; simp only [ltD]; by_cases h : a ≤ b <;> simp [h] <;> omega
@[simp] theorem cmp_ge {a b : Int} : cmpD .ge (.int a) (.int b) = some (decide (b ≤ a)) := by
  show (if alikeU (.int a) (.int b) then some (!ltD (.int a) (.int b)) else none) = _
  rw [if_pos (by rfl)]; simp only [ltD]; by_cases h : b ≤ a <;> simp [h] <;> omega
@[simp] theorem b1_len_t {xs : List PyData} : b1D .len (.tuple xs) = some (.int xs.length, .c) := rfl
@[simp] theorem b1_len_l {xs : List PyData} : b1D .len (.list xs) = some (.int xs.length, .c) := rfl
@[simp] theorem b1_len_d {xs : List (PyData × PyData)} : b1D .len (.dict xs) = some (.int xs.length, .c) := rfl
@[simp] theorem b1_tuple_l {xs : List PyData} : b1D .tuple (.list xs) = some (.tuple xs, .c) := rfl
@[simp] theorem b1_tuple_t {xs : List PyData} : b1D .tuple (.tuple xs) = some (.tuple xs, .c) := rfl
@[simp] theorem b1_list_l {xs : List PyData} : b1D .list (.list xs) = some (.list xs, .f) := rfl
@[simp] theorem b1_list_t {xs : List PyData} : b1D .list (.tuple xs) = some (.list xs, .f) := rfl
@[simp] theorem b1_int_i {i : Int} : b1D .int (.int i) = some (.int i, .c) := rfl
@[simp] theorem b1_int_b {k : Bool} : b1D .int (.bool k) = some (.int (if k then 1 else 0), .c) := rfl
@[simp] theorem b1_isInt_i {i : Int} : b1D .isInt (.int i) = some (.bool true, .c) := rfl
@[simp] theorem b1_isInt_b {i : Bool} : b1D .isInt (.bool i) = some (.bool true, .c) := rfl
@[simp] theorem b1_isInt_n : b1D .isInt .none = some (.bool false, .c) := rfl
@[simp] theorem b1_isInt_t {xs : List PyData} : b1D .isInt (.tuple xs) = some (.bool false, .c) := rfl
@[simp] theorem b1_isBool_i {i : Int} : b1D .isBool (.int i) = some (.bool false, .c) := rfl
@[simp] theorem b1_isBool_b {i : Bool} : b1D .isBool (.bool i) = some (.bool true, .c) := rfl
@[simp] theorem b1_isBool_t {xs : List PyData} : b1D .isBool (.tuple xs) = some (.bool false, .c) := rfl
@[simp] theorem b1_isTuple_t {xs : List PyData} : b1D .isTuple (.tuple xs) = some (.bool true, .c) := rfl
@[simp] theorem b1_isTuple_l {xs : List PyData} : b1D .isTuple (.list xs) = some (.bool false, .c) := rfl
@[simp] theorem b1_isTuple_i {i : Int} : b1D .isTuple (.int i) = some (.bool false, .c) := rfl
@[simp] theorem b1_isTupleList_t {xs : List PyData} : b1D .isTupleList (.tuple xs) = some (.bool true, .c) := rfl
@[simp] theorem b1_isTupleList_l {xs : List PyData} : b1D .isTupleList (.list xs) = some (.bool true, .c) := rfl
@[simp] theorem b1_isTupleList_i {i : Int} : b1D .isTupleList (.int i) = some (.bool false, .c) := rfl
@[simp] theorem b1_isTupleList_b {i : Bool} : b1D .isTupleList (.bool i) = some (.bool false, .c) := rfl
@[simp] theorem b1_isTupleList_n : b1D .isTupleList .none = some (.bool false, .c) := rfl
@[simp] theorem b1_isTupleList_s {x : Str} : b1D .isTupleList (.str x) = some (.bool false, .c) := rfl
@[simp] theorem b1_isList_t {xs : List PyData} : b1D .isList (.tuple xs) = some (.bool false, .c) := rfl
@[simp] theorem b1_isList_l {xs : List PyData} : b1D .isList (.list xs) = some (.bool true, .c) := rfl
@[simp] theorem b1_isStr_i {i : Int} : b1D .isStr (.int i) = some (.bool false, .c) := rfl
@[simp] theorem b1_isStr_b {i : Bool} : b1D .isStr (.bool i) = some (.bool false, .c) := rfl
@[simp] theorem b1_isStr_n : b1D .isStr .none = some (.bool false, .c) := rfl
@[simp] theorem b1_isStr_s {x : Str} : b1D .isStr (.str x) = some (.bool true, .c) := rfl
@[simp] theorem seqOf_l {xs : List PyData} : seqOf (.list xs) = some xs := rfl
@[simp] theorem seqOf_t {xs : List PyData} : seqOf (.tuple xs) = some xs := rfl
@[simp] theorem isNoneD_n : isNoneD .none = true := rfl
@[simp] theorem isNoneD_i {i : Int} : isNoneD (.int i) = false := rfl
@[simp] theorem isNoneD_b {i : Bool} : isNoneD (.bool i) = false := rfl
@[simp] theorem isNoneD_t {xs : List PyData} : isNoneD (.tuple xs) = false := rfl
@[simp] theorem isNoneD_l {xs : List PyData} : isNoneD (.list xs) = false := rfl
@[simp] theorem isNoneD_s {x : Str} : isNoneD (.str x) = false := rfl
@[simp] theorem bin_add_i {i j : Int} : binD .add (.int i) (.int j) = some (.int (i + j), .c) := rfl
@[simp] theorem bin_sub_i {i j : Int} : binD .sub (.int i) (.int j) = some (.int (i - j), .c) := rfl
theorem bin_mul_i {i j : Int} (h : smallI i = true ∨ smallI j = true) : binD .mul (.int i) (.int j) = some (.int (i * j), .c) := by
  show (if smallI i || smallI j then _ else _) = _
  rw [if_pos (by simpa using h)]
theorem bin_mod_i {i j : Int} (h : 0 < j) : binD .mod (.int i) (.int j) = some (.int (i % j), .c) := by
  show (if decide (0 < j) then _ else _) = _
  rw [if_pos (by simpa using h)]
theorem bin_fdiv_i {i j : Int} (h : 0 < j) (h2 : j < 1073741824) : binD .fdiv (.int i) (.int j) = some (.int (i / j), .c) := by
  show (if decide (0 < j) && decide (j < 1073741824) then _ else _) = _
  rw [if_pos (by simp [h, h2])]
theorem bin_add_l {xs ys : List PyData} (h : xs.length + ys.length ≤ big) : binD .add (.list xs) (.list ys) = some (.list (xs ++ ys), .f) := by
  show (if sz (xs.length + ys.length) then _ else _) = _
  rw [if_pos (by simpa [sz] using h)]
@[simp] theorem le_big4 : 4 ≤ big := by decide
@[simp] theorem le_big6 : 6 ≤ big := by decide
theorem bin_add_t {xs ys : List PyData} (h : xs.length + ys.length ≤ big) : binD .add (.tuple xs) (.tuple ys) = some (.tuple (xs ++ ys), .c) := by
  show (if sz (xs.length + ys.length) then _ else _) = _
  rw [if_pos (by simpa [sz] using h)]
theorem rangeL_eq : ∀ (n : Nat) (lo : Nat), rangeL lo n = (List.range' lo n).map nD
  | 0, _ => rfl
  | n + 1, lo => by
    rw [rangeL, List.range'_succ, List.map_cons]
    have := rangeL_eq n (lo + 1)
    rw [← this]; rfl
@[simp] theorem rangeL_0 {n : Nat} : rangeL 0 n = (List.range n).map nD := by
  have := rangeL_eq n 0
  rw [List.range_eq_range']; exact this
@[simp] theorem rangeL_n {n lo : Nat} : rangeL (lo : Int) n = (List.range' lo n).map nD := rangeL_eq n lo
theorem rgO_n {n : Nat} {m : Mu} (h : n ≤ 1000000) : rgO (.int n) m = .ok ((List.range n).map nD, .c) m := by
  have h1 : (-1000000 : Int) ≤ n := by omega
  have h2 : (n : Int) ≤ 1000000 := by omega
  simp only [rgO, h1, h2, decide_true, Bool.and_self, if_true, Int.toNat_natCast, rangeL_0]
theorem rgO2_n {i n : Nat} {m : Mu} (h : i ≤ 1000000) (h' : n ≤ 1000000) : rgO2 (.int i) (.int n) m = .ok ((List.range' i (n - i)).map nD, .c) m := by
  have h1 : (-1000000 : Int) ≤ n := by omega
  have h2 : (n : Int) ≤ 1000000 := by omega
  have h3 : (-1000000 : Int) ≤ i := by omega
  have h4 : (i : Int) ≤ 1000000 := by omega
  have h5 : ((n : Int) - (i : Int)).toNat = n - i := by omega
  simp only [rgO2, h1, h2, h3, h4, h5, decide_true, Bool.and_self, if_true, rangeL_n]
/-- range(n) -/
theorem r1 {C : Calls} {a : Ex} {env : Ev} {m m' : Mu} {fl : Fl} (n : Nat) (h : ev C a env m = .ok (.int (n : Int), fl) m') (hn : n ≤ 1000000) : evI C (.range1 a) env m = .ok ((List.range n).map nD, .c) m' := by
  rw [evI_range1, h, Out.bind_ok]; exact rgO_n hn
/-- range(i, n) -/
theorem r2 {C : Calls} {a b : Ex} {env : Ev} {m : Mu} {fl fl' : Fl} (i n : Nat) (h : ev C a env m = .ok (.int (i : Int), fl) m) (h' : ev C b env m = .ok (.int (n : Int), fl') m) (hi : i ≤ 1000000) (hn : n ≤ 1000000) : evI C (.range2 a b) env m = .ok ((List.range' i (n - i)).map nD, .c) m := by
  rw [evI_range2, h, Out.bind_ok, h', Out.bind_ok]; exact rgO2_n hi hn
theorem atI_n {α : Type} {xs : List α} {i : Nat} (h : i < xs.length) : L2.atI xs (i : Int) = some xs[i] := L2.atI_nat (List.getElem?_eq_getElem h)
theorem ix_t {xs : List PyData} {i : Nat} (h : i < xs.length) : ixD (.tuple xs) (.int i) = some xs[i] := atI_n h
theorem ix_l {xs : List PyData} {i : Nat} (h : i < xs.length) : ixD (.list xs) (.int i) = some xs[i] := atI_n h
theorem ix_m {α : Type} {e : α → PyData} {l : List α} {i : Nat} (h : i < l.length) : ixD (.tuple (l.map e)) (.int i) = some (e l[i]) := by
  rw [ix_t (by simpa using h)]; simp
theorem ix_ml {α : Type} {e : α → PyData} {l : List α} {i : Nat} (h : i < l.length) : ixD (.list (l.map e)) (.int i) = some (e l[i]) := by
  rw [ix_l (by simpa using h)]; simp
@[simp] theorem ix_t0 {x : PyData} {xs : List PyData} : ixD (.tuple (x :: xs)) (.int 0) = some x := ix_t (i := 0) (by simp)
@[simp] theorem ix_t1 {x y : PyData} {xs : List PyData} : ixD (.tuple (x :: y :: xs)) (.int 1) = some y := ix_t (i := 1) (by simp)
@[simp] theorem ix_l0 {x : PyData} {xs : List PyData} : ixD (.list (x :: xs)) (.int 0) = some x := ix_l (i := 0) (by simp)
theorem atI_m1 {α : Type} {xs : List α} (h : xs ≠ []) : L2.atI xs (-1) = xs.getLast? := by
  obtain ⟨l, v, rfl⟩ : ∃ l v, xs = l ++ [v] := ⟨xs.dropLast, xs.getLast h, (List.dropLast_concat_getLast h).symm⟩
  rw [L2.atI_last]; simp
end Tw
set_option Elab.async false
set_option linter.all false
set_option maxRecDepth 100000
namespace Tw
def mxN (l : List Nat) : Nat := l.foldl max 0
theorem row_fix : ∀ n ∈ [2, 3, 4], ∀ b ∈ rowsL n, mxN b = 0 → IsRow (b.take (n - 1) ++ [1]) ∧ (b.take (n - 1) ++ [1]).length = n ∧ mxN (b.take (n - 1) ++ [1]) ≠ 0 := by decide +kernel
theorem row_rot : ∀ n ∈ [2, 3, 4], ∀ b ∈ rowsL n, mxN b ≠ 0 → b.drop 1 ++ b.take 1 ≠ b := by decide +kernel
theorem pk_perm {b p : List Nat} (h : p.Perm (List.range b.length)) : (pk b p).Perm b := by
  have h1 : (pk b p).Perm (pk b (List.range b.length)) := h.map _
  have h2 : pk b (List.range b.length) = b := by
    unfold pk
    refine List.ext_getElem (by simp) fun i h1 h2 => ?_
    simp [List.getD, h2]
  rwa [h2] at h1
theorem rot_perm {α : Type} (b : List α) : b.Perm (b.drop 1 ++ b.take 1) := by
  have := List.perm_append_comm (l₁ := b.take 1) (l₂ := b.drop 1)
  rwa [List.take_append_drop] at this
end Tw
set_option Elab.async false
set_option linter.all false
set_option maxRecDepth 100000
/-! Orders, sorting, sets as strictly rising lists. -/
namespace Tw
structure LO {α : Type} (lt : α → α → Bool) : Prop where
  irr : ∀ a, lt a a = false
  trans : ∀ {a b c}, lt a b = true → lt b c = true → lt a c = true
  tri : ∀ {a b}, a ≠ b → lt a b = true ∨ lt b a = true
theorem LO.asymm {α : Type} {lt : α → α → Bool} (h : LO lt) {a b : α} (h1 : lt a b = true) : lt b a = false := by
  cases h2 : lt b a with
  | false => rfl
  | true => have := h.trans h1 h2; rw [h.irr] at this; cases this
def ltN (a b : Nat) : Bool := decide (a < b)
theorem lo_N : LO ltN := ⟨fun a => by simp [ltN], fun {a b c} h1 h2 => by simp [ltN] at *; omega, fun {a b} h => by simp [ltN]; omega⟩
def ltL {α : Type} [DecidableEq α] (lt : α → α → Bool) : List α → List α → Bool
  | _, [] => false
  | [], _ :: _ => true
  | x :: xs, y :: ys => if x = y then ltL lt xs ys else lt x y
theorem ltL_nil {α : Type} [DecidableEq α] {lt : α → α → Bool} (x : List α) : ltL lt x [] = false := by cases x <;> rfl
theorem lo_L {α : Type} [DecidableEq α] {lt : α → α → Bool} (h : LO lt) : LO (ltL lt) := by
  refine ⟨?_, ?_, ?_⟩
  · intro a
    induction a with
    | nil => rfl
    | cons x xs ih => simp [ltL, ih]
  · intro a
    induction a with
    | nil =>
      intro b c h1 h2
      cases c with
      | nil => rw [ltL_nil] at h2; cases h2
      | cons z zs => rfl
    | cons x xs ih =>
      intro b c h1 h2
      cases b with
      | nil => rw [ltL_nil] at h1; cases h1
      | cons y ys =>
        cases c with
        | nil => rw [ltL_nil] at h2; cases h2
        | cons z zs =>
          simp only [ltL] at *
          by_cases e1 : x = y
          · subst e1
            rw [if_pos rfl] at h1
            by_cases e2 : x = z
            · subst e2; rw [if_pos rfl] at *; exact ih h1 h2
            · rw [if_neg e2] at *; exact h2
          · rw [if_neg e1] at h1
            by_cases e2 : y = z
            · subst e2; rw [if_neg e1]; exact h1
            · rw [if_neg e2] at h2
              have := h.trans h1 h2
              by_cases e3 : x = z
              · subst e3; rw [h.irr] at this; cases this
              · rw [if_neg e3]; exact this
  · intro a
    induction a with
    | nil =>
      intro b hb
      cases b with
      | nil => exact absurd rfl hb
      | cons y ys => exact .inl rfl
    | cons x xs ih =>
      intro b hb
      cases b with
      | nil => exact .inr rfl
      | cons y ys =>
        simp only [ltL]
        by_cases e1 : x = y
        · subst e1
          rw [if_pos rfl, if_pos rfl]
          exact ih fun e => hb (by rw [e])
        · rw [if_neg e1, if_neg (Ne.symm e1)]
          exact h.tri e1
abbrev ltR : List Nat → List Nat → Bool := ltL ltN
theorem lo_R : LO ltR := lo_L lo_N
def ltP {α β : Type} [DecidableEq α] (l1 : α → α → Bool) (l2 : β → β → Bool) (p q : α × β) : Bool := if p.1 = q.1 then l2 p.2 q.2 else l1 p.1 q.1
theorem lo_P {α β : Type} [DecidableEq α] {l1 : α → α → Bool} {l2 : β → β → Bool} (h1 : LO l1) (h2 : LO l2) : LO (ltP l1 l2) := by
  refine ⟨fun a => by simp [ltP, h2.irr], ?_, ?_⟩
  · rintro ⟨a, a'⟩ ⟨b, b'⟩ ⟨c, c'⟩ g1 g2
    simp only [ltP] at *
    by_cases e1 : a = b
    · subst e1
      rw [if_pos rfl] at g1
      by_cases e2 : a = c
      · subst e2; rw [if_pos rfl] at *; exact h2.trans g1 g2
      · rw [if_neg e2] at *; exact g2
    · rw [if_neg e1] at g1
      by_cases e2 : b = c
      · subst e2; rw [if_neg e1]; exact g1
      · rw [if_neg e2] at g2
        have := h1.trans g1 g2
        by_cases e3 : a = c
        · subst e3; rw [h1.irr] at this; cases this
        · rw [if_neg e3]; exact this
  · rintro ⟨a, a'⟩ ⟨b, b'⟩ g
    simp only [ltP]
    by_cases e1 : a = b
    · subst e1
      rw [if_pos rfl, if_pos rfl]
      exact h2.tri fun e => g (by rw [e])
    · rw [if_neg e1, if_neg (Ne.symm e1)]
      exact h1.tri e1
abbrev ltU : Rule → Rule → Bool := ltP ltR ltR
theorem lo_U : LO ltU := lo_P lo_R lo_R
/-! ### sorting -/
section
variable {α : Type} (lt : α → α → Bool)
def insG (x : α) : List α → List α
  | [] => [x]
  | y :: ys => if lt y x then y :: insG x ys else x :: y :: ys
def sortG : List α → List α
  | [] => []
  | x :: xs => insG lt x (sortG xs)
theorem insG_perm (x : α) : ∀ l, (insG lt x l).Perm (x :: l)
  | [] => .refl _
  | y :: ys => by
    rw [insG]; split
    · exact ((insG_perm x ys).cons y).trans (.swap x y ys)
    · exact .refl _
theorem sortG_perm : ∀ l, (sortG lt l).Perm l
  | [] => .refl _
  | x :: xs => (insG_perm lt x (sortG lt xs)).trans ((sortG_perm xs).cons x)
variable {lt}
theorem insG_sorted (h : LO lt) (x : α) : ∀ l : List α, l.Pairwise (fun a b => lt b a = false) → (insG lt x l).Pairwise (fun a b => lt b a = false)
  | [], _ => by simp [insG]
  | y :: ys, hp => by
    rw [insG]
    obtain ⟨h1, h2⟩ := List.pairwise_cons.mp hp
    split <;> rename_i hlt
    · refine List.pairwise_cons.mpr ⟨fun z hz => ?_, insG_sorted h x ys h2⟩
      rcases List.mem_cons.mp ((insG_perm lt x ys).mem_iff.mp hz) with e | hz
      · subst e; exact h.asymm hlt
      · exact h1 z hz
    · refine List.pairwise_cons.mpr ⟨fun z hz => ?_, hp⟩
      have hyx : lt y x = false := by simpa using hlt
      rcases List.mem_cons.mp hz with e | hz
      · subst e; exact hyx
      · have h3 := h1 z hz
        cases h4 : lt z x with
        | false => rfl
        | true =>
          by_cases e : y = z
          · subst e; rw [hyx] at h4; cases h4
          · rcases h.tri e with h5 | h5
            · have := h.trans h5 h4; rw [hyx] at this; cases this
            · rw [h3] at h5; cases h5
theorem sortG_sorted (h : LO lt) : ∀ l, (sortG lt l).Pairwise (fun a b => lt b a = false)
  | [] => by simp [sortG]
  | x :: xs => insG_sorted h x _ (sortG_sorted h xs)
theorem mem_sortG {x : α} {l : List α} : x ∈ sortG lt l ↔ x ∈ l := (sortG_perm lt l).mem_iff
theorem length_sortG (l : List α) : (sortG lt l).length = l.length := (sortG_perm lt l).length_eq
/-- strictly rising -/
def Up (lt : α → α → Bool) (l : List α) : Prop := l.Pairwise fun a b => lt a b = true
theorem Up.nodup (h : LO lt) {l : List α} (hl : Up lt l) : l.Nodup := List.nodup_iff_pairwise_ne.mpr (hl.imp fun {a b} h1 e => by subst e; rw [h.irr] at h1; cases h1)
theorem sortG_up (h : LO lt) {l : List α} (hn : l.Nodup) : Up lt (sortG lt l) := by
  have h1 := sortG_sorted h l
  have h2 : (sortG lt l).Nodup := (sortG_perm lt l).nodup_iff.mpr hn
  refine (List.Pairwise.and h1 (List.nodup_iff_pairwise_ne.mp h2)).imp fun {a b} ⟨h3, h4⟩ => ?_
  rcases h.tri h4 with h5 | h5
  · exact h5
  · rw [h3] at h5; cases h5
theorem sorted_eq (h : LO lt) {a b : List α} (ha : a.Pairwise fun a b => lt b a = false) (hb : b.Pairwise fun a b => lt b a = false) (hp : a.Perm b) : a = b :=
  hp.eq_of_pairwise (le := fun a b => lt b a = false) (fun x y _ _ h1 h2 => by
    by_cases e : x = y
    · exact e
    · rcases h.tri e with h3 | h3
      · rw [h3] at h2; cases h2
      · rw [h3] at h1; cases h1) ha hb
theorem Up.sorted (h : LO lt) {l : List α} (hl : Up lt l) : l.Pairwise fun a b => lt b a = false := hl.imp fun h1 => h.asymm h1
theorem up_unique (h : LO lt) {a b : List α} (ha : Up lt a) (hb : Up lt b) (hm : ∀ x, x ∈ a ↔ x ∈ b) : a = b :=
  sorted_eq h (ha.sorted h) (hb.sorted h) ((List.perm_ext_iff_of_nodup (ha.nodup h) (hb.nodup h)).mpr hm)
theorem sortG_id (h : LO lt) {l : List α} (hl : Up lt l) : sortG lt l = l := sorted_eq h (sortG_sorted h l) (hl.sorted h) (sortG_perm lt l)
theorem sortG_congr (h : LO lt) {a b : List α} (hp : a.Perm b) : sortG lt a = sortG lt b := sorted_eq h (sortG_sorted h a) (sortG_sorted h b) ((sortG_perm lt a).trans (hp.trans (sortG_perm lt b).symm))
end
/-! ### keys, in the order in which they came -/
def insK {α : Type} [DecidableEq α] (ks : List α) (x : α) : List α := if x ∈ ks then ks else ks ++ [x]
theorem mem_insK {α : Type} [DecidableEq α] {ks : List α} {x y : α} : y ∈ insK ks x ↔ y ∈ ks ∨ y = x := by
  unfold insK; split
  · exact ⟨.inl, fun h => h.elim id fun e => by rw [e]; assumption⟩
  · simp
theorem nodup_insK {α : Type} [DecidableEq α] {ks : List α} {x : α} (h : ks.Nodup) : (insK ks x).Nodup := by
  unfold insK; split
  · exact h
  · rw [List.nodup_append]
    exact ⟨h, by simp, fun a ha b hb e => by simp at hb; subst hb; subst e; contradiction⟩
theorem length_insK {α : Type} [DecidableEq α] (ks : List α) (x : α) : (insK ks x).length ≤ ks.length + 1 := by
  unfold insK; split <;> simp
/-- a set of values, from the order in which they came -/
def keysOf {α : Type} [DecidableEq α] (l : List α) : List α := l.foldl insK []
theorem keys_foldl {α : Type} [DecidableEq α] : ∀ (l ks : List α), ks.Nodup → (l.foldl insK ks).Nodup ∧ ∀ y, y ∈ l.foldl insK ks ↔ y ∈ ks ∨ y ∈ l
  | [], ks, h => ⟨h, by simp⟩
  | x :: l, ks, h => by
    obtain ⟨h1, h2⟩ := keys_foldl l (insK ks x) (nodup_insK h)
    refine ⟨h1, fun y => ?_⟩
    show y ∈ l.foldl insK (insK ks x) ↔ _
    rw [h2, mem_insK]
    simp only [List.mem_cons]
    constructor
    · rintro ((h | h) | h) <;> simp [h]
    · rintro (h | h | h) <;> simp [h]
theorem nodup_keysOf {α : Type} [DecidableEq α] (l : List α) : (keysOf l).Nodup := (keys_foldl l [] (by simp)).1
theorem mem_keysOf {α : Type} [DecidableEq α] {l : List α} {y : α} : y ∈ keysOf l ↔ y ∈ l := by
  have := (keys_foldl l [] (by simp)).2 y
  simpa [keysOf] using this
theorem keysOf_append {α : Type} [DecidableEq α] (l : List α) (x : α) : keysOf (l ++ [x]) = insK (keysOf l) x := by simp [keysOf]
theorem length_keysOf {α : Type} [DecidableEq α] (l : List α) : (keysOf l).length ≤ l.length := by
  have : ∀ (l ks : List α), (l.foldl insK ks).length ≤ ks.length + l.length := by
    intro l
    induction l with
    | nil => intro ks; simp
    | cons x l ih =>
      intro ks
      have := ih (insK ks x)
      have := length_insK ks x
      simp only [List.foldl_cons, List.length_cons]
      omega
  simpa [keysOf] using this l []
/-! ### books -/
structure IsBook (b : List Rule) : Prop where
  up : Up ltU b
  rule : ∀ p ∈ b, IsRule p
theorem IsRow.perm {r s : List Nat} (h : IsRow r) (hp : r.Perm s) : IsRow s := by
  have hm : ∀ x, x ∈ dist s ↔ x ∈ dist r := fun x => by rw [mem_dist, mem_dist]; exact hp.symm.mem_iff
  have e := lt_unique (dist_lt s) (dist_lt r) hm
  have e2 : (dd s).length = (dd r).length := by
    have h1 : (dist s).length = (dd s).length := length_sortN _
    have h2 : (dist r).length = (dd r).length := length_sortN _
    rw [← h1, ← h2, e]
  rw [isRow_iff] at *
  rw [e, e2, h]
theorem IsRule.swap {p : Rule} (h : IsRule p) : IsRule (p.2, p.1) :=
  ⟨by have := h.lo; rw [h.perm.length_eq] at this; exact this, by have := h.hi; rw [h.perm.length_eq] at this; exact this, h.row.perm h.perm, h.perm.symm, fun e => h.ne e.symm⟩
theorem IsRule.len {p : Rule} (h : IsRule p) : p.2.length = p.1.length := h.perm.length_eq.symm
theorem IsRule.row2 {p : Rule} (h : IsRule p) : IsRow p.2 := h.row.perm h.perm
end Tw
set_option Elab.async false
set_option linter.all false
set_option maxRecDepth 100000
/-! Steps. -/
namespace Tw
/-- a row with new values at some places -/
def putAt (r l vs : List Nat) (n : Nat) : List Nat := (List.range n).foldl (fun t k => t.set (l.getD k 0) (vs.getD k 0)) r
/-- the row that a rule makes at l -/
def put (r l a : List Nat) : List Nat := putAt r l (a.map fun k => (dist (pk r l)).getD k 0) l.length
theorem putAt_succ (r l vs : List Nat) (n : Nat) : putAt r l vs (n + 1) = (putAt r l vs n).set (l.getD n 0) (vs.getD n 0) := by
  simp [putAt, List.range_succ]
@[simp] theorem length_putAt (r l vs : List Nat) : ∀ n, (putAt r l vs n).length = r.length
  | 0 => rfl
  | n + 1 => by rw [putAt_succ, List.length_set, length_putAt r l vs n]
@[simp] theorem length_put (r l a : List Nat) : (put r l a).length = r.length := length_putAt _ _ _ _
def stepsOf (r : List Nat) (p : Rule) : List (List Nat) := ((spots r.length p.1.length).filter (fitsAt p.1 r)).map fun l => put r l p.2
def allSteps (b : List Rule) (r : List Nat) : List (List Nat) := b.flatMap (stepsOf r)
/-- all rows one step on, rising -/
def stepsL (b : List Rule) (r : List Nat) : List (List Nat) := sortG ltR (keysOf (allSteps b r))
theorem mem_stepsL {b : List Rule} {r t : List Nat} : t ∈ stepsL b r ↔ ∃ p ∈ b, ∃ l ∈ spots r.length p.1.length, lieL (pk r l) = p.1 ∧ put r l p.2 = t := by
  unfold stepsL allSteps stepsOf
  rw [mem_sortG, mem_keysOf]
  simp only [List.mem_flatMap, List.mem_map, List.mem_filter, fitsAt, beq_iff_eq, and_assoc]
theorem stepsL_up (b : List Rule) (r : List Nat) : Up ltR (stepsL b r) := sortG_up lo_R (nodup_keysOf _)
theorem stepsL_len {b : List Rule} {r t : List Nat} (h : t ∈ stepsL b r) : t.length = r.length := by
  obtain ⟨p, _, l, _, _, rfl⟩ := mem_stepsL.mp h
  exact length_put _ _ _
theorem stepsL_nil {b : List Rule} {r : List Nat} : stepsL b r = [] ↔ calm b r = true := by
  unfold calm
  rw [List.all_eq_true, List.eq_nil_iff_forall_not_mem]
  constructor
  · intro h p hp
    cases hl : liesIn p.1 r with
    | false => rfl
    | true =>
      obtain ⟨l, hl, e⟩ := liesIn_iff.mp hl
      exact absurd (mem_stepsL.mpr ⟨p, hp, l, hl, e, rfl⟩) (h _)
  · intro h t ht
    obtain ⟨p, hp, l, hl, e, _⟩ := mem_stepsL.mp ht
    have := h p hp
    rw [liesIn_iff.mpr ⟨l, hl, e⟩] at this
    cases this
theorem length_stepsOf (r : List Nat) (p : Rule) : (stepsOf r p).length ≤ r.length ^ p.1.length := by
  unfold stepsOf
  rw [List.length_map]
  exact Nat.le_trans (List.length_filter_le _ _) (length_spots _ _)
theorem mem_lie_lt {l : List Nat} {x : Nat} (h : x ∈ lieL l) : x < (dist l).length := by
  obtain ⟨y, hy, rfl⟩ := List.mem_map.mp h
  rw [← rk_eq_idx hy]
  exact List.idxOf_lt_length_iff.mpr (mem_dist.mpr hy)
theorem length_allSteps {b : List Rule} {r : List Nat} (hr : r.length ≤ 12) (hb : b.length ≤ 8) (hp : ∀ p ∈ b, p.1.length ≤ 4) : (allSteps b r).length ≤ 8 * 12 ^ 4 := by
  have h1 : ∀ p ∈ b, (stepsOf r p).length ≤ 12 ^ 4 := fun p h => by
    refine Nat.le_trans (length_stepsOf r p) ?_
    have h2 : r.length ^ p.1.length ≤ 12 ^ p.1.length := Nat.pow_le_pow_left hr _
    have h3 : 12 ^ p.1.length ≤ 12 ^ 4 := Nat.pow_le_pow_right (by omega) (hp p h)
    omega
  have h2 : ∀ b : List Rule, (∀ p ∈ b, (stepsOf r p).length ≤ 12 ^ 4) → (b.flatMap (stepsOf r)).length ≤ b.length * 12 ^ 4 := by
    intro b
    induction b with
    | nil => simp
    | cons p b ih =>
      intro h
      have := ih fun q hq => h q (by simp [hq])
      have := h p (by simp)
      rw [List.flatMap_cons, List.length_append, List.length_cons, Nat.add_mul, Nat.one_mul]
      omega
  have := h2 b h1
  unfold allSteps
  have h4 : b.length * 12 ^ 4 ≤ 8 * 12 ^ 4 := Nat.mul_le_mul_right _ hb
  omega
end Tw
set_option Elab.async false
set_option linter.all false
set_option maxRecDepth 100000
set_option maxHeartbeats 4000000
/-! Numbers in lists. -/
namespace Tw
open PySem
@[simp] theorem beqD_n {a b : Nat} : beqD (.int a) (.int b) = decide (a = b) := by
  simp only [beqD]
  by_cases h : a = b
  · simp [h]
  · have : (a : Int) ≠ b := by omega
    simp [h, this]
@[simp] theorem ltD_n {a b : Nat} : ltD (.int a) (.int b) = decide (a < b) := by
  simp only [ltD]; by_cases h : a < b <;> simp [h] <;> omega
theorem any_nD {x : Nat} {l : List Nat} : (l.map nD).any (beqD (nD x)) = decide (x ∈ l) := by
  induction l with
  | nil => rfl
  | cons a l ih => rw [List.map_cons, List.any_cons, ih]; simp
theorem dedup_nD : ∀ l : List Nat, dedup (l.map nD) = (dd l).map nD
  | [] => rfl
  | a :: l => by
    rw [List.map_cons, dedup, dedup_nD l, any_nD, dd]
    by_cases h : a ∈ dd l <;> simp [h]
theorem insD_nD (x : Nat) : ∀ l : List Nat, insD (nD x) (l.map nD) = (insN x l).map nD
  | [] => rfl
  | a :: l => by
    rw [List.map_cons, insD, insN, insD_nD x l, ltD_n]
    by_cases h : a < x <;> simp [h]
theorem sortD_nD : ∀ l : List Nat, sortD (l.map nD) = (sortN l).map nD
  | [] => rfl
  | a :: l => by rw [List.map_cons, sortD, sortD_nD l, insD_nD, sortN]
theorem all_uni0 (l : List Nat) : (l.map nD).all (uni 0) = true := by
  rw [List.all_map]; exact List.all_eq_true.mpr fun x _ => rfl
theorem b1_sortedSet {d : PyData} {l : List Nat} (hs : seqOf d = some (l.map nD)) (h : l.length < 64) : b1D .sortedSet d = some (.list ((dist l).map nD), .f) := by
  show ((seqOf d).bind fun xs => if setOk xs then some (PyData.list (sortD (dedup xs)), Fl.f) else none) = _
  rw [hs]
  show (if setOk (l.map nD) then _ else _) = _
  rw [if_pos (by rw [setOk, all_uni0]; simpa using h), dedup_nD, sortD_nD]; rfl
theorem b1_lenSet {d : PyData} {l : List Nat} (hs : seqOf d = some (l.map nD)) (h : l.length < 64) : b1D .lenSet d = some (.int (dd l).length, .c) := by
  show ((seqOf d).bind fun xs => if setOk xs then some (PyData.int (dedup xs).length, Fl.c) else none) = _
  rw [hs]
  show (if setOk (l.map nD) then _ else _) = _
  rw [if_pos (by rw [setOk, all_uni0]; simpa using h), dedup_nD]; simp
theorem b1_sorted {d : PyData} {l : List Nat} (hs : seqOf d = some (l.map nD)) (h : l.length ≤ big) : b1D .sorted d = some (.list ((sortN l).map nD), .f) := by
  show ((seqOf d).bind fun xs => if sortable xs then some (PyData.list (sortD xs), Fl.f) else none) = _
  rw [hs]
  show (if sortable (l.map nD) then _ else _) = _
  rw [if_pos (by rw [sortable, sortable0, all_uni0]; simp [h]), sortD_nD]
theorem b1_listRange {n : Nat} (h : n ≤ 100000) : b1D .listRange (.int n) = some (.list ((List.range n).map nD), .f) := by
  show (if decide (-1000000 ≤ (n : Int)) && decide ((n : Int) ≤ 100000) then some (PyData.list (rangeL 0 (n : Int).toNat), Fl.f) else none) = _
  rw [if_pos (by simp; omega)]; simp
theorem findD_nD {x : Nat} : ∀ {l : List Nat}, x ∈ l → findD (nD x) (l.map nD) = some (l.idxOf x)
  | [], h => by simp at h
  | a :: l, h => by
    rw [List.map_cons, findD, beqD_n]
    by_cases e : a = x
    · simp [e]
    · have e2 : (a == x) = false := by simpa using e
      have : x ∈ l := by simpa [Ne.symm e] using h
      simp [e, List.idxOf_cons, e2, findD_nD this]
theorem b2_index {x : Nat} {l : List Nat} (h : x ∈ l) : b2D .index (.list (l.map nD)) (.int x) = some (.int (l.idxOf x), .c) := by
  show (if plainD (nD x) && plainD (.list (l.map nD)) then (findD (nD x) (l.map nD)).map fun (n : Nat) => (PyData.int (n : Int), Fl.c) else none) = _
  rw [if_pos (by rw [(Pn_int (k := 1) (i := x)).plain (by omega), (show Pn 1 (.list (l.map nD)) by simp).plain (by omega)]; rfl), findD_nD h]; rfl
def mnN (x : Nat) (l : List Nat) : Nat := l.foldl min x
theorem maxL_nD : ∀ (l : List Nat) (x : Nat), maxL (nD x) (l.map nD) = nD (l.foldl max x)
  | [], _ => rfl
  | y :: l, x => by
    rw [List.map_cons, maxL, List.foldl_cons, ← maxL_nD l]
    congr 1
    rw [ltD_n]
    by_cases h : x < y
    · have : max x y = y := by omega
      simp [h, this]
    · have : max x y = x := by omega
      simp [h, this]
theorem minL_nD : ∀ (l : List Nat) (x : Nat), minL (nD x) (l.map nD) = nD (l.foldl min x)
  | [], _ => rfl
  | y :: l, x => by
    rw [List.map_cons, minL, List.foldl_cons, ← minL_nD l]
    congr 1
    rw [ltD_n]
    by_cases h : y < x
    · have : min x y = y := by omega
      simp [h, this]
    · have : min x y = x := by omega
      simp [h, this]
theorem depth_nD : ∀ l : List Nat, PyData.depthAll (l.map nD) = 0
  | [] => rfl
  | a :: l => by rw [List.map_cons, PyData.depthAll, depth_nD l]; rfl
theorem b1_max {d : PyData} {l : List Nat} (hs : seqOf d = some (l.map nD)) (h : l ≠ []) : b1D .max d = some (.int (mxN l), .c) := by
  show ((seqOf d).bind fun xs => match xs with
    | [] => none
    | x :: r => if cmpAll (x :: r) && decide (PyData.depthAll (x :: r) ≤ 40) then some (maxL x r, Fl.c) else none) = _
  rw [hs]
  cases l with
  | nil => exact absurd rfl h
  | cons a l =>
    show (if cmpAll ((a :: l).map nD) && decide (PyData.depthAll ((a :: l).map nD) ≤ 40) then some (maxL (nD a) (l.map nD), Fl.c) else none) = _
    rw [if_pos (by rw [depth_nD, cmpAll, all_uni0]; rfl), maxL_nD, mxN, List.foldl_cons, Nat.zero_max]
theorem le_mxN {x : Nat} {l : List Nat} (h : x ∈ l) : x ≤ mxN l := by
  have : ∀ (l : List Nat) (a : Nat), a ≤ l.foldl max a ∧ ∀ x ∈ l, x ≤ l.foldl max a := by
    intro l
    induction l with
    | nil => simp
    | cons b l ih =>
      intro a
      rw [List.foldl_cons]
      obtain ⟨h1, h2⟩ := ih (max a b)
      refine ⟨by omega, fun x hx => ?_⟩
      rcases List.mem_cons.mp hx with rfl | hx
      · omega
      · exact h2 x hx
  exact (this l 0).2 x h
theorem mxN_mem {l : List Nat} (h : l ≠ []) : mxN l ∈ l := by
  have : ∀ (l : List Nat) (a : Nat), l.foldl max a = a ∨ l.foldl max a ∈ l := by
    intro l
    induction l with
    | nil => simp
    | cons b l ih =>
      intro a
      rw [List.foldl_cons]
      rcases ih (max a b) with e | e
      · rw [e]
        by_cases hab : a ≤ b
        · right; have : max a b = b := by omega
          simp [this]
        · left; omega
      · right; simp [e]
  cases l with
  | nil => exact absurd rfl h
  | cons a l =>
    have h2 := this l a
    rw [mxN, List.foldl_cons, Nat.zero_max]
    rcases h2 with e | e
    · rw [e]; simp
    · simp [e]
/-! ### slices -/
theorem cutL_to {α : Type} {xs : List α} {k : Nat} : cutL xs none (some (k : Int)) = xs.take k := by
  rw [cutL, HT.sIx_none, HT.sIx_nat, Nat.sub_zero, List.drop_zero]
  by_cases h : k ≤ xs.length
  · rw [Nat.min_eq_left h]
  · rw [Nat.min_eq_right (by omega), List.take_of_length_le (by omega), List.take_of_length_le (by omega)]
theorem cutL_from {α : Type} {xs : List α} {k : Nat} : cutL xs (some (k : Int)) none = xs.drop k := by
  rw [cutL, HT.sIx_none, HT.sIx_nat]
  by_cases h : k ≤ xs.length
  · rw [Nat.min_eq_left h, List.take_of_length_le (by simp)]
  · rw [Nat.min_eq_right (by omega), List.drop_of_length_le (by omega), List.drop_of_length_le (by omega)]; simp
@[simp] theorem slice_to_l {xs : List PyData} {k : Nat} : sliceD (.list xs) none (some (k : Int)) = some (.list (xs.take k), .f) := by
  show some (PyData.list (cutL xs none (some (k : Int))), Fl.f) = _; rw [cutL_to]
@[simp] theorem slice_from_l {xs : List PyData} {k : Nat} : sliceD (.list xs) (some (k : Int)) none = some (.list (xs.drop k), .f) := by
  show some (PyData.list (cutL xs (some (k : Int)) none), Fl.f) = _; rw [cutL_from]
@[simp] theorem slice_to_t {xs : List PyData} {k : Nat} : sliceD (.tuple xs) none (some (k : Int)) = some (.tuple (xs.take k), .c) := by
  show some (PyData.tuple (cutL xs none (some (k : Int))), Fl.c) = _; rw [cutL_to]
@[simp] theorem slice_from_t {xs : List PyData} {k : Nat} : sliceD (.tuple xs) (some (k : Int)) none = some (.tuple (xs.drop k), .c) := by
  show some (PyData.tuple (cutL xs (some (k : Int)) none), Fl.c) = _; rw [cutL_from]
@[simp] theorem slice_from_l1 {xs : List PyData} {k : Nat} : sliceD (.list xs) (some ((k : Int) + 1)) none = some (.list (xs.drop (k + 1)), .f) := slice_from_l (k := k + 1)
@[simp] theorem slice_from_t1 {xs : List PyData} {k : Nat} : sliceD (.tuple xs) (some ((k : Int) + 1)) none = some (.tuple (xs.drop (k + 1)), .c) := slice_from_t (k := k + 1)
@[simp] theorem slice_from_lo {xs : List PyData} : sliceD (.list xs) (some 1) none = some (.list (xs.drop 1), .f) := slice_from_l (k := 1)
@[simp] theorem slice_from_to {xs : List PyData} : sliceD (.tuple xs) (some 1) none = some (.tuple (xs.drop 1), .c) := slice_from_t (k := 1)
@[simp] theorem slice_to_lo {xs : List PyData} : sliceD (.list xs) none (some 1) = some (.list (xs.take 1), .f) := slice_to_l (k := 1)
@[simp] theorem slice_to_to {xs : List PyData} : sliceD (.tuple xs) none (some 1) = some (.tuple (xs.take 1), .c) := slice_to_t (k := 1)
end Tw
set_option Elab.async false
set_option linter.all false
set_option maxRecDepth 100000
set_option maxHeartbeats 4000000
/-! The drawing defs. -/
namespace Tw
open PySem
/-- the cell as it stands in the law -/
def Cl (m : Mu) : Prop := ∃ (ns : List Int) (a : Nat) (b c : Int), m = some (ns, [(a : Int), b, c])
@[simp] theorem cellGet_1 {ns : List Int} {a b c : Int} : cellGet (some .cell) (some (ns, [a, b, c])) 1 = some (.int a) := rfl
@[simp] theorem cellGet_2 {ns : List Int} {a b c : Int} : cellGet (some .cell) (some (ns, [a, b, c])) 2 = some (.int b) := rfl
@[simp] theorem cellGet_3 {ns : List Int} {a b c : Int} : cellGet (some .cell) (some (ns, [a, b, c])) 3 = some (.int c) := rfl
@[simp] theorem scrGet_c {p : List Int × List Int} : scrGet (some .cell) (some p) = some p.1 := rfl
@[simp] theorem setCellD_1 {ns : List Int} {a b c v : Int} : setCellD (some .cell) (some (ns, [a, b, c])) (.int v) 1 = some (ns, [v, b, c]) := rfl
@[simp] theorem setCellD_2 {ns : List Int} {a b c v : Int} : setCellD (some .cell) (some (ns, [a, b, c])) (.int v) 2 = some (ns, [a, v, c]) := rfl
@[simp] theorem setCellD_3 {ns : List Int} {a b c v : Int} : setCellD (some .cell) (some (ns, [a, b, c])) (.int v) 3 = some (ns, [a, b, v]) := rfl
@[simp] theorem intOf_i {i : Int} : intOf (.int i) = some i := rfl
@[simp] theorem noneE : (none : Mu).isNone = true := rfl
theorem mod_nat {i : Int} {k : Nat} (h : 0 < k) : ∃ v : Nat, i % (k : Int) = v ∧ v < k := by
  have h1 := Int.emod_nonneg i (b := (k : Int)) (by omega)
  have h2 := Int.emod_lt_of_pos i (b := (k : Int)) (by omega)
  exact ⟨(i % (k : Int)).toNat, by omega, by omega⟩
theorem Cl.same {m m' : Mu} (h : Cl m) (h' : Cl m') : sameN m m' := by obtain ⟨_, _, _, _, rfl⟩ := h; obtain ⟨_, _, _, _, rfl⟩ := h'; rfl
theorem taken_W {F n k : Nat} {m : Mu} (hm : Cl m) (hk : 0 < k) (hk2 : k < 1073741824) {Q : PyData → Mu → Prop} (hQ : ∀ (v : Nat) m', v < k → Cl m' → Q (.int v) m') : W (callN GT F (n + 1) 16 [.cell, .d (.int k)] m) Q := by
  have fin : ∀ (i : Int) m', Cl m' → Q (.int (i % (k : Int))) m' := fun i m' h => by
    obtain ⟨v, e, hv⟩ := mod_nat (i := i) hk
    rw [e]; exact hQ v m' hv h
  have cl : ∀ (x y z : Int) (w : List Int) (x' y' z' : Int), sameN (some (w, [x, y, z])) (some (w, [x', y', z'])) := fun _ _ _ _ _ _ _ => rfl
  obtain ⟨ns, a, b, c, rfl⟩ := hm
  have hk' : (0 : Int) < k := by omega
  have hk2' : (k : Int) < 1073741824 := by omega
  refine W_call f_law_taken rfl rfl ?_
  by_cases hc : 0 < c
  · simp [cl, f_law_taken, b_law_taken, startS, slOf, hc, bin_mod_i hk', bin_fdiv_i hk' hk2']
    exact fin _ _ ⟨_, _, _, _, rfl⟩
  · have hs : smallI 48271 = true := by decide
    have hp : binD .pow (.int 10) (.int 18) = some (.int 1000000000000000000, .c) := by decide
    by_cases ha : a < ns.length
    · have ha' : ¬ ((ns.length : Int) < (a : Int) + 1) := by omega
      have e1 : (a : Int) + 1 - 1 = a := by omega
      by_cases hb : 1000000000000000000 ≤ ns[a]
      · simp [cl, f_law_taken, b_law_taken, startS, slOf, hc, ha', bin_mul_i (.inr hs), bin_mod_i hk', bin_mod_i (j := 2147483647) (by decide), bin_fdiv_i (j := 7) (by decide) (by decide), atI_n ha, hp, hb, bin_fdiv_i hk' hk2', e1]
        exact fin _ _ ⟨_, _, _, _, rfl⟩
      · simp [cl, f_law_taken, b_law_taken, startS, slOf, hc, ha', bin_mul_i (.inr hs), bin_mod_i hk', bin_mod_i (j := 2147483647) (by decide), bin_fdiv_i (j := 7) (by decide) (by decide), atI_n ha, hp, hb, bin_fdiv_i hk' hk2', e1]
        exact fin _ _ ⟨_, _, _, _, rfl⟩
    · have ha' : ((ns.length : Int) < (a : Int) + 1) := by omega
      simp [cl, f_law_taken, b_law_taken, startS, slOf, hc, ha', bin_mul_i (.inr hs), bin_mod_i hk', bin_mod_i (j := 2147483647) (by decide), bin_fdiv_i (j := 7) (by decide) (by decide), hk]
      exact fin _ _ ⟨_, _, _, _, rfl⟩
theorem order_W {F n k : Nat} {m : Mu} (hm : Cl m) (hk : k ≤ 100000) {Q : PyData → Mu → Prop} (hQ : ∀ (p : List Nat) m', p.Perm (List.range k) → Cl m' → Q (.list (p.map nD)) m') : W (callN GT F (n + 2) 17 [.cell, .d (.int k)] m) Q := by
  refine W_call f_law_order rfl rfl ?_
  simp [f_law_order, b_law_order, startS, slOf, b1_listRange hk]
  refine W_for (fl := .c) (m' := m) (List.range k) nD (fun pre env m => Cl m ∧ ∃ (left found : List Nat) (a b : Option Sl), env = [some .cell, some (.v (.int k)), a, some (.o (left.map nD)), some (.o (found.map nD)), b] ∧ left.length + pre.length = k ∧ found.length = pre.length ∧ (left ++ found).Perm (List.range k)) ?_ ?_ ?_ ?_
  · exact r1 (fl := .c) k (by simp) (by omega)
  · exact ⟨hm, List.range k, [], _, _, rfl, by simp, rfl, by simp⟩
  · rintro pre a post env m K e ⟨hm, left, found, x, y, rfl, h1, h2, h3⟩ hK _ _
    have hl : 0 < left.length := by
      have := congrArg List.length e
      simp at this; omega
    simp
    refine taken_W hm hl (by omega) fun v m' hv hm' => ?_
    have hb : found.length ≤ big := by have : (100000 : Nat) ≤ big := by decide
                                       omega
    have hb2 : (left.take v).length + (left.drop (v + 1)).length ≤ big := by
      have : (100000 : Nat) ≤ big := by decide
      simp; omega
    simp [ix_ml hv, sz, hb]
    rw [bin_add_l (by simpa using hb2)]
    simp
    have e2 : (left.map nD).take v ++ (left.map nD).drop (v + 1) = (left.eraseIdx v).map nD := by rw [List.eraseIdx_eq_take_drop_succ]; simp
    have e3 : found.map nD ++ [nD left[v]] = (found ++ [left[v]]).map nD := by simp
    rw [e2, e3]
    refine hK _ _ ⟨hm', _, _, _, _, rfl, ?_, ?_, ?_⟩
    · rw [List.length_eraseIdx_of_lt hv]; simp; omega
    · simp [h2]
    · refine List.Perm.trans ?_ h3
      have p1 : (left[v] :: left.eraseIdx v).Perm left := by
        have e4 : left = left.take v ++ left[v] :: left.drop (v + 1) := by rw [List.getElem_cons_drop]; simp
        rw [List.eraseIdx_eq_take_drop_succ]
        conv => rhs; rw [e4]
        exact List.perm_middle.symm
      refine List.Perm.trans ?_ (p1.append_right found)
      rw [← List.append_assoc]
      exact List.perm_append_singleton _ _
  · rintro env m' ⟨hm', left, found, x, y, rfl, h1, h2, h3⟩
    have : left = [] := by
      rw [List.length_range] at h1
      exact List.length_eq_zero_iff.mp (by omega)
    subst this
    simp [slD, hm.same hm']
    exact hQ _ _ (by simpa using h3) hm'
/-- a list or a tuple of numbers -/
inductive Sq : PyData → List Nat → Prop
  | l (xs : List Nat) : Sq (.list (xs.map nD)) xs
  | t (xs : List Nat) : Sq (.tuple (xs.map nD)) xs
theorem Sq.seq {d : PyData} {l : List Nat} (h : Sq d l) : seqOf d = some (l.map nD) := by cases h <;> rfl
theorem Sq.evI {d : PyData} {l : List Nat} (h : Sq d l) {C : Calls} {env : Ev} {i : Nat} {m : Mu} (hg : getS env i = some (.v d)) : evI C (.val (.var i)) env m = .ok (l.map nD, .c) m := by
  simp [hg, h.seq, joinF]
theorem le_big {n : Nat} (h : n < 64) : n ≤ big := Nat.le_trans (Nat.le_of_lt h) (by decide)
theorem law_lie_eq {F n : Nat} {d : PyData} {l : List Nat} {m : Mu} (hd : Sq d l) (hl : l.length < 64) : callN GT F (n + 1) 18 [.d d] m = .ok (rD (lieL l)) m := by
  rw [callN_eq (fn := f_law_lie) rfl rfl]
  simp [f_law_lie, b_law_lie, startS, slOf]
  rw [ev_comp0 l nD (rk l) nD .c (hd.evI (by simp)) (le_big hl)]
  · simp [endF, sameM, lieL]
  · intro x hx
    simp
    rw [ev_comp1 l nD (fun y => decide (y < x)) id nD .c (hd.evI (by simp)) (le_big hl)]
    · simp
      rw [b1_lenSet (l := l.filter (fun y => decide (y < x))) rfl (by have := List.length_filter_le (fun y => decide (y < x)) l; omega)]
      simp [rk]
    · intro y hy
      by_cases h : y < x <;> simp [h]
end Tw
set_option Elab.async false
set_option linter.all false
set_option maxRecDepth 100000
set_option maxHeartbeats 4000000
/-! The signs, by the law's own look. -/
namespace Tw
open PySem
abbrev iD (i : Int) : PyData := .int i
abbrev pD (q : Int × Int) : PyData := .tuple [.int q.1, .int q.2]
theorem ix_hd {α : Type} {e : α → PyData} {xs : List α} {z : α} (h : xs ≠ []) : ixD (.list (xs.map e)) (.int 0) = some (e (xs.head?.getD z)) := by
  cases xs with
  | nil => exact absurd rfl h
  | cons a l => simp
theorem ix_lst {α : Type} {e : α → PyData} {xs : List α} {z : α} (h : xs ≠ []) : ixD (.list (xs.map e)) (.int ((xs.length : Int) - 1)) = some (e (xs.getLast?.getD z)) := by
  have hl : 0 < xs.length := List.length_pos_iff.mpr h
  have e1 : (xs.length : Int) - 1 = ((xs.length - 1 : Nat) : Int) := by omega
  rw [e1, ix_ml (by omega)]
  have e2 : xs.getLast?.getD z = xs[xs.length - 1] := by
    rw [← List.getLast_eq_getElem h, List.getLast?_eq_some_getLast h]; rfl
  rw [e2]
theorem eqD_ints0 {xs : List Int} : eqD (.list (xs.map iD)) (.list []) = some (decide (xs = [])) := by
  rw [eqD_nil (k := 0) (by simp) (by omega)]; cases xs <;> simp
def gains (p : Rule) : List Int := ((List.range p.1.length).filter fun k => decide (p.2.getD k 0 ≠ p.1.getD k 0)).map fun k => (p.2.getD k 0 : Int) - (p.1.getD k 0 : Int)
def comes (p : Rule) (v : Nat) : List Int := ((List.range p.1.length).map fun k => (if p.2.getD k 0 = v then (1 : Int) else 0) - (if p.1.getD k 0 = v then 1 else 0)).filter fun x => decide (x ≠ 0)
def moved1 (p : Rule) (v : Nat) : Option (Int × Int) := if comes p v = [] then none else some (0 - (comes p v).head?.getD 0, (comes p v).getLast?.getD 0)
def moved (p : Rule) : List (Int × Int) := (List.range (mxN p.1 + 1)).filterMap (moved1 p)
def upI (i : Int) : Int := if 0 < i then 1 else -1
def sgn (p : Rule) : List Int := [upI ((gains p).head?.getD 0), upI ((gains p).getLast?.getD 0), ((moved p).head?.getD (0, 0)).1, ((moved p).head?.getD (0, 0)).2, ((moved p).getLast?.getD (0, 0)).1, ((moved p).getLast?.getD (0, 0)).2]
theorem getD_lt {l : List Nat} {k : Nat} (h : k < l.length) : l[k] = l.getD k 0 := by simp [List.getD, h]
theorem ix_r {l : List Nat} {k : Nat} (h : k < l.length) : ixD (.tuple (l.map nD)) (.int k) = some (.int (l.getD k 0)) := by rw [ix_m h, getD_lt h]
theorem law_signs_eq {F n : Nat} {p : Rule} {m : Mu} (hl : p.2.length = p.1.length) (h4 : p.1.length ≤ 4) (h0 : p.1 ≠ []) (hg : gains p ≠ []) (hmv : moved p ≠ []) (hmx : mxN p.1 ≤ 100) : callN GT F (n + 1) 21 [.d (uD p)] m = .ok (.tuple ((sgn p).map iD)) m := by
  refine W.eq (W_call f_law_signs rfl rfl ?_)
  have hb : (1000 : Nat) ≤ big := by decide
  have hr : ((p.1.length : Nat) : Int) ≤ 1000000 := by omega
  simp [f_law_signs, b_law_signs, startS, slOf]
  rw [ev_comp1 (List.range p.1.length) nD (fun k => decide (p.2.getD k 0 ≠ p.1.getD k 0)) (fun k => (p.2.getD k 0 : Int) - (p.1.getD k 0 : Int)) iD .c (r1 (fl := .c) p.1.length (by simp) (by omega)) (by simp; omega)]
  · have hg' : ((List.range p.1.length).filter fun k => decide (p.2.getD k 0 ≠ p.1.getD k 0)).map (fun k => (p.2.getD k 0 : Int) - (p.1.getD k 0 : Int)) = gains p := rfl
    rw [hg']
    simp [ix_hd (z := (0 : Int)) hg, ix_lst (z := (0 : Int)) hg]
    refine W_for (fl := .c) (m' := m) (List.range (mxN p.1 + 1)) nD (fun pre env m' => m' = m ∧ ∃ (a b : Option Sl), env = [some (.v (uD p)), some (.o [iD (upI ((gains p).head?.getD 0)), iD (upI ((gains p).getLast?.getD 0))]), a, some (.v (rD p.1)), some (.v (rD p.2)), some (.o ((gains p).map iD)), some (.o ((pre.filterMap (moved1 p)).map pD)), b, none, none]) ?_ ?_ ?_ ?_
    · exact r1 (fl := .c) (mxN p.1 + 1) (by simp [b1_max (d := rD p.1) rfl h0]) (by omega)
    · exact ⟨rfl, _, _, rfl⟩
    · rintro pre v post env _ K e ⟨rfl, a, b, rfl⟩ hK _ _
      simp
      rw [ev_comp0 (List.range p.1.length) nD (fun k => (if p.2.getD k 0 = v then (1 : Int) else 0) - (if p.1.getD k 0 = v then 1 else 0)) iD .c (r1 (fl := .c) p.1.length (by simp) (by omega)) (by simp; omega)]
      · simp
        rw [ev_comp1 ((List.range p.1.length).map fun k => (if p.2.getD k 0 = v then (1 : Int) else 0) - (if p.1.getD k 0 = v then 1 else 0)) iD (fun x => decide (x ≠ 0)) id iD .b (by simp [joinF]) (by simp; omega)]
        · have hc : (((List.range p.1.length).map fun k => (if p.2.getD k 0 = v then (1 : Int) else 0) - (if p.1.getD k 0 = v then 1 else 0)).filter fun x => decide (x ≠ 0)).map id = comes p v := by rw [List.map_id]; rfl
          rw [hc]
          by_cases hn : comes p v = []
          · simp [hn]
            refine hK _ _ ⟨rfl, ?_⟩
            simp [List.filterMap_append, moved1, hn]
          · have hsz : ((pre.filterMap (moved1 p)).map pD).length ≤ big := by
              have h1 : pre.length ≤ mxN p.1 + 1 := by have := congrArg List.length e; simp at this; omega
              have := List.length_filterMap_le (moved1 p) pre
              simp; omega
            simp [eqD_ints0, hn, ix_hd (z := (0 : Int)) hn, ix_lst (z := (0 : Int)) hn, sz]
            rw [if_pos (by simpa using hsz)]
            simp
            refine hK _ _ ⟨rfl, ?_⟩
            simp [List.filterMap_append, moved1, hn]
        · intro x hx
          by_cases h : x = 0 <;> simp [h]
      · intro k hk
        have hk : k < p.1.length := List.mem_range.mp hk
        have hk2 : k < p.2.length := by omega
        simp [ix_r hk, ix_r hk2]
    · rintro env _ ⟨rfl, a, b, rfl⟩
      have : moved p = (List.range (mxN p.1 + 1)).filterMap (moved1 p) := rfl
      rw [← this]
      simp [ix_hd (z := ((0 : Int), (0 : Int))) hmv, ix_lst (z := ((0 : Int), (0 : Int))) hmv, bin_add_t, sgn]
  · intro k hk
    have hk : k < p.1.length := List.mem_range.mp hk
    have hk2 : k < p.2.length := by omega
    simp [ix_r hk, ix_r hk2]
end Tw
set_option Elab.async false
set_option linter.all false
set_option maxRecDepth 100000
set_option maxHeartbeats 4000000
/-! Drawn rows, rules, books. -/
namespace Tw
open PySem
theorem lie_eq {F n : Nat} {d : PyData} {l : List Nat} {m : Mu} (hd : Sq d l) (hl : l.length < 64) : callN GT F (n + 1) 6 [.d d] m = .ok (.tuple [rD (lieL l), .list ((dist l).map nD)]) m := by
  rw [callN_eq (fn := f_lie) rfl rfl]
  simp [f_lie, b_lie, startS, slOf, b1_sortedSet hd.seq hl, slD]
  rw [ev_comp0 l nD (dist l).idxOf nD .c (hd.evI (by simp)) (le_big hl)]
  · simp [endF, sameM, ← lie_idx l]
  · intro x hx
    simp [b2ok, isListD, b2_index (mem_dist.mpr hx)]
/-- what a loop with draws gives -/
theorem W_lc {α β : Type} {e : α → PyData} {e' : β → PyData} {f : PyData → Mu → Out (Option PyData)} (I : Mu → Prop) (R : β → Prop) :
    ∀ {l : List α} {m : Mu} {Q : List PyData → Mu → Prop}, (∀ a ∈ l, ∀ m (K : Option PyData → Mu → Prop), I m → (∀ b m', R b → I m' → K (some (e' b)) m') → W (f (e a) m) K) → I m → (∀ (bs : List β) (m' : Mu), bs.length = l.length → (∀ b ∈ bs, R b) → I m' → Q (bs.map e') m') → W (lcLoop f (l.map e) m) Q
  | [], m, Q, _, hi, hq => by
    show W (.ok [] m) Q
    exact W_ok.mpr (hq [] m rfl (by simp) hi)
  | a :: l, m, Q, h, hi, hq => by
    show W ((f (e a) m).noex.bind fun y m => _) Q
    refine W_bind.mpr ?_
    have h1 := h a (by simp) m (fun o m' => ∃ b, o = some (e' b) ∧ R b ∧ I m') hi fun b m' hb hm => ⟨b, rfl, hb, hm⟩
    obtain ⟨o, m1, e1, b, rfl, hb, hm1⟩ := h1
    rw [e1]
    show W (.ok (some (e' b)) m1) _
    rw [W_ok]
    simp only [W_bind]
    refine W_lc I R (l := l) (fun a ha => h a (by simp [ha])) hm1 fun bs m' hl hr hm => ?_
    rw [W_ok]
    exact hq (b :: bs) m' (by simp [hl]) (by simpa using ⟨hb, hr⟩) hm
theorem W_comp0 {α β : Type} {C : Calls} {elt : Ex} {tg : Tg} {it : It} {own : List Nat} {env : Ev} {m m1 : Mu} {fl : Fl} {Q : PyData × Fl → Mu → Prop} (l : List α) (e : α → PyData) (e' : β → PyData) (I : Mu → Prop) (R : β → Prop)
    (hi : evI C it env m = .ok (l.map e, fl) m1) (hl : l.length ≤ big) (h0 : I m1)
    (he : ∀ a ∈ l, ∀ m (K : Option PyData → Mu → Prop), I m → (∀ b m', R b → I m' → K (some (e' b)) m') → W (cs0 C elt m (bindG tg (wipeS env own) (e a))) K)
    (hq : ∀ (bs : List β) (m' : Mu), bs.length = l.length → (∀ b ∈ bs, R b) → I m' → Q (.list (bs.map e'), .f) m') : W (ev C (.comp0 elt tg it own) env m) Q := by
  rw [ev_c0, hi, Out.bind_ok]
  refine W_bind.mpr (W_lc I R (fun a ha m K hm hK => he a ha m K hm hK) h0 fun bs m' h1 h2 h3 => ?_)
  have : (bs.map e').length ≤ big := by rw [List.length_map, h1]; exact hl
  simp only [sz, this, decide_true, if_true, W_ok]
  exact hq bs m' h1 h2 h3
theorem isRow_perm {p : List Nat} {k : Nat} (h : p.Perm (List.range k)) : IsRow p := by
  have e : dist p = List.range k := lt_unique (dist_lt p) List.pairwise_lt_range fun x => mem_dist.trans h.mem_iff
  rw [isRow_iff, e]
  have : (dd p).length = (dist p).length := (length_sortN _).symm
  rw [this, e, List.length_range]
theorem drawn_W {F n k : Nat} {m : Mu} (hm : Cl m) (hk : k < 64) {Q : PyData → Mu → Prop} (hQ : ∀ (r : List Nat) m', r.length = k → IsRow r → Cl m' → Q (rD r) m') : W (callN GT F (n + 3) 19 [.cell, .d (.int k)] m) Q := by
  refine W_call f_law_drawn rfl rfl ?_
  simp [f_law_drawn, b_law_drawn, startS, slOf]
  refine taken_W (k := 2) hm (by omega) (by omega) fun v m1 hv hm1 => ?_
  simp
  by_cases h0 : v = 0
  · simp [h0]
    refine order_W hm1 (by omega) fun p m2 hp hm2 => ?_
    simp [hm.same hm2]
    exact hQ p m2 (by simpa using hp.length_eq) (isRow_perm hp) hm2
  · have : ¬ (v : Int) = 0 := by omega
    simp [this, h0]
    refine taken_W (k := 4) hm1 (by omega) (by omega) fun w m2 hw hm2 => ?_
    simp
    refine W_comp0 (List.range k) nD nD Cl (fun _ => True) (r1 (fl := .c) k (by simp) (by omega)) (by simpa using le_big hk) hm2 ?_ ?_
    · intro a _ m K hm hK
      simp
      have := taken_W (F := F) (n := n + 1) (k := w + 1) (Q := fun d m' => K (some d) m') hm (by omega) (by omega) fun v m' _ hm' => hK v m' trivial hm'
      simpa [Int.add_comm] using this
    · intro bs m' hl _ hm'
      simp at hl
      simp
      rw [law_lie_eq (Sq.l bs) (by omega)]
      simp [hm.same hm']
      exact hQ _ m' (by simpa using hl) (isRow_lie bs) hm'
end Tw
set_option Elab.async false
set_option linter.all false
set_option maxRecDepth 100000
set_option maxHeartbeats 4000000
/-! Drawn rules, books. -/
namespace Tw
open PySem
theorem rule_W {F n q : Nat} {m : Mu} (hm : Cl m) (hq1 : 1 ≤ q) (hq3 : q ≤ 3) {Q : PyData → Mu → Prop} (hQ : ∀ (p : Rule) m', IsRule p → p.1.length ≤ q + 1 → Cl m' → Q (uD p) m') : W (callN GT F (n + 4) 20 [.cell, .d (.int ((q + 1 : Nat) : Int))] m) Q := by
  refine W_call f_law_rule rfl rfl ?_
  have hbig : 1000 ≤ big := by decide
  simp [f_law_rule, b_law_rule, startS, slOf]
  refine taken_W hm hq1 (by omega) fun v m1 hv hm1 => ?_
  simp
  rw [show (2 : Int) + (v : Int) = ((v + 2 : Nat) : Int) by omega]
  refine drawn_W (k := v + 2) hm1 (by omega) fun r m2 hr hrow hm2 => ?_
  simp
  have hne : r ≠ [] := fun h => by subst h; simp at hr
  rw [b1_max (d := rD r) rfl hne]
  simp
  -- the first side
  have key : ∀ (b : List Nat), b.length = v + 2 → IsRow b → mxN b ≠ 0 → W (exs (callN GT F (n + 3)) F (.cons (.set 4 (.b1 .tuple (.comp0 (.ix (.var 3) (.var 5)) (.n 5) (.val (.call 17 (.cons (.var 0) (.cons (.var 2) .nil)))) [5]))) (.cons (.ifs (.cmp .eq (.var 3) (.var 4)) (.cons (.set 4 (.bin .add (.sliceFrom (.var 3) (.lit (.int 1))) (.sliceTo (.var 3) (.lit (.int 1))))) .nil) .nil) (.cons (.ret (.tup (.cons (.var 3) (.cons (.var 4) .nil)))) .nil))) [some .cell, some (.v (.int ((q : Int) + 1))), some (.v (.int ((v : Int) + 2))), some (.v (rD b)), none, none] m2) (Fin m Q) := by
    intro b hb hrow hmx
    rw [exs_cons, ex_set, ev_b1, ev_c0]
    simp
    refine order_W (k := v + 2) hm2 (by omega) fun p m3 hp hm3 => ?_
    have hlp : p.length = v + 2 := by simpa using hp.length_eq
    have hmem : ∀ k ∈ p, k < b.length := fun k hk => by rw [hb]; exact List.mem_range.mp (hp.mem_iff.mp hk)
    have hperm : (pk b p).Perm b := pk_perm (by rw [hb]; exact hp)
    simp
    rw [lc_map (e := nD) (g := fun k => some (nD (b.getD k 0)))]
    · have e1 : p.filterMap (fun k => some (nD (b.getD k 0))) = (pk b p).map nD := by rw [List.filterMap_eq_map', pk, List.map_map]; rfl
      have e6 : p.length ≤ big := by omega
      rw [e1]
      simp [sz, e6]
      by_cases he : b = pk b p
      · simp [← he]
        rw [bin_add_t (by simp; omega)]
        simp only [Out.of_some, W_ok, Option.map_some, setV_c, setS_succ, setS_zero, nx_next, exs_nil, exs_cons, ex_ret, ev_tup, evs_cons, evs_nil, ev_var, getS_succ, getS_zero, Out.bind_ok, keepD_c, nx_ret, Fin_ret, hm.same hm3, true_and]
        have e2 : (b.map nD).tail ++ (b.map nD).take 1 = (b.drop 1 ++ b.take 1).map nD := by simp
        have e3 := hQ (b, b.drop 1 ++ b.take 1) m3 ⟨by simp [hb], by simp [hb]; omega, hrow, rot_perm b, fun h => ?_⟩ (by simp [hb]; omega) hm3
        · rw [e2]; exact e3
        · exact row_rot (v + 2) (by have : v < 3 := by omega
                                    rcases (by omega : v = 0 ∨ v = 1 ∨ v = 2) with rfl | rfl | rfl <;> simp) b (mem_rowsL.mpr ⟨hb, hrow⟩) hmx h.symm
      · simp [he, hm.same hm3]
        exact hQ (b, pk b p) m3 ⟨by simp [hb], by simp [hb]; omega, hrow, hperm.symm, he⟩ (by simp [hb]; omega) hm3
    · intro k hk
      simp [ix_r (hmem k hk)]
  by_cases h0 : 0 < mxN r
  · simp [h0]
    simpa using key r hr hrow (by omega)
  · have h00 : mxN r = 0 := by omega
    simp [h00]
    obtain ⟨f1, f2, f3⟩ := row_fix (v + 2) (by rcases (by omega : v = 0 ∨ v = 1 ∨ v = 2) with rfl | rfl | rfl <;> simp) r (mem_rowsL.mpr ⟨hr, hrow⟩) h00
    have e4 : ((v : Int) + 2 - 1) = ((v + 1 : Nat) : Int) := by omega
    rw [e4, slice_to_t]
    simp only [Out.of_some, W_ok]
    rw [bin_add_t (by simp; omega)]
    have e5 : (r.map nD).take (v + 1) ++ [PyData.int 1] = (r.take (v + 1) ++ [1]).map nD := by simp
    simp only [Out.of_some, W_ok, e5, setV_c, setS_succ, setS_zero, Option.map_some, nx_next]
    exact key _ f2 f1 f3
end Tw
set_option Elab.async false
set_option linter.all false
set_option maxRecDepth 100000
set_option maxHeartbeats 4000000
/-! Drawn books. -/
namespace Tw
open PySem
/-! ### order of data -/
theorem beqD_dec (a b : PyData) : beqD a b = decide (a = b) := by
  by_cases h : a = b
  · simp [h, (beqD_iff b b).mpr rfl]
  · have : beqD a b ≠ true := fun h' => h ((beqD_iff a b).mp h')
    simp [h, this]
theorem ltDs_R : ∀ r s : List Nat, ltDs (r.map nD) (s.map nD) = ltR r s
  | r, [] => by cases r <;> rfl
  | [], _ :: _ => rfl
  | x :: xs, y :: ys => by
    rw [List.map_cons, List.map_cons, ltDs, ltDs_R xs ys, ltR, ltL, beqD_n, ltD_n]
    by_cases h : x = y <;> simp [h, ltN]
@[simp] theorem ltD_R {r s : List Nat} : ltD (.tuple (r.map nD)) (.tuple (s.map nD)) = ltR r s := ltDs_R r s
theorem ltR_irr (r : List Nat) : ltR r r = false := lo_R.irr r
@[simp] theorem ltD_U {p q : Rule} : ltD (uD p) (uD q) = ltU p q := by
  show ltDs [rD p.1, rD p.2] [rD q.1, rD q.2] = _
  rw [ltDs, ltDs, ltDs, beqD_dec, beqD_dec, ltD_R, ltD_R]
  simp only [PyData.tuple.injEq, rD_inj, ltU, ltP, decide_eq_true_eq]
  split
  · split
    · rename_i h; rw [h, ltR_irr]
    · rfl
  · rfl
theorem insD_G {α : Type} {e : α → PyData} {lt : α → α → Bool} (h : ∀ a b, ltD (e a) (e b) = lt a b) (x : α) : ∀ l : List α, insD (e x) (l.map e) = (insG lt x l).map e
  | [] => rfl
  | a :: l => by
    rw [List.map_cons, insD, insG, insD_G h x l, h]
    by_cases h : lt a x = true <;> simp [h]
theorem sortD_G {α : Type} {e : α → PyData} {lt : α → α → Bool} (h : ∀ a b, ltD (e a) (e b) = lt a b) : ∀ l : List α, sortD (l.map e) = (sortG lt l).map e
  | [] => rfl
  | a :: l => by rw [List.map_cons, sortD, sortD_G h l, insD_G h, sortG]
theorem uni1_rD {r : List Nat} (h : r ≠ []) : uni 1 (rD r) = true := by
  cases r with
  | nil => exact absurd rfl h
  | cons a l =>
    show (uni 0 (nD a) && (l.map nD).all (uni 0)) = true
    rw [all_uni0]; rfl
theorem uni2_uD {p : Rule} (h1 : p.1 ≠ []) (h2 : p.2 ≠ []) : uni 2 (uD p) = true := by
  show (uni 1 (rD p.1) && [rD p.2].all (uni 1)) = true
  simp only [List.all_cons, List.all_nil, Bool.and_true, uni1_rD h1, uni1_rD h2, Bool.and_self]
theorem keyOk_rD {r : List Nat} : keyOk (rD r) = true := by
  cases r with
  | nil => rfl
  | cons a l => unfold keyOk; rw [uni1_rD (by simp)]; rfl
theorem keyOk_uD {p : Rule} (h1 : p.1 ≠ []) (h2 : p.2 ≠ []) : keyOk (uD p) = true := by
  unfold keyOk; rw [uni2_uD h1 h2]; simp
theorem IsRule.ne1 {p : Rule} (h : IsRule p) : p.1 ≠ [] := fun e => by have := h.lo; rw [e] at this; simp at this
theorem IsRule.ne2 {p : Rule} (h : IsRule p) : p.2 ≠ [] := h.swap.ne1
/-- a dict whose values are all True -/
abbrev kvT {α : Type} (e : α → PyData) (ks : List α) : List (PyData × PyData) := ks.map fun k => (e k, .bool true)
theorem putD_T {α : Type} [DecidableEq α] {e : α → PyData} (he : ∀ a b, e a = e b → a = b) (k : α) : ∀ ks : List α, putD (e k) (.bool true) (kvT e ks) = kvT e (insK ks k)
  | [] => rfl
  | a :: ks => by
    have ih := putD_T he k ks
    simp only [kvT, List.map_cons, putD, beqD_dec] at *
    by_cases h : a = k
    · subst h; simp [insK]
    · have h2 : e a ≠ e k := fun h' => h (he _ _ h')
      have h3 : insK (a :: ks) k = a :: insK ks k := by
        unfold insK
        by_cases hk : k ∈ ks <;> simp [hk, Ne.symm h]
      simp [h2, h3, ih]
@[simp] theorem map_kvT {α : Type} {e : α → PyData} {ks : List α} : (kvT e ks).map (·.1) = ks.map e := by simp [kvT, Function.comp_def]
theorem uD_inj' (p q : Rule) (h : uD p = uD q) : p = q := uD_inj.mp h
theorem rD_inj' (p q : List Nat) (h : rD p = rD q) : p = q := rD_inj.mp (by injection h)
theorem sortable_U {l : List Rule} (h : ∀ p ∈ l, IsRule p) (hl : l.length ≤ big) : sortable (l.map uD) = true := by
  have : (l.map uD).all (uni 2) = true := by
    rw [List.all_map, List.all_eq_true]; intro p hp; exact uni2_uD (h p hp).ne1 (h p hp).ne2
  simp [sortable, sortable0, this, hl]
theorem signs_ok : rules4.all (fun p => decide (gains p ≠ []) && (decide (moved p ≠ []) && (decide (mxN p.1 ≤ 100) && (sgn p).all fun x => x == 1 || x == -1))) = true := by decide +kernel
theorem IsRule.signs {p : Rule} (h : IsRule p) : gains p ≠ [] ∧ moved p ≠ [] ∧ mxN p.1 ≤ 100 ∧ ∀ x ∈ sgn p, x = 1 ∨ x = -1 := by
  have := List.all_eq_true.mp signs_ok p (mem_rules4.mpr h)
  simp only [Bool.and_eq_true, decide_eq_true_eq, List.all_eq_true, Bool.or_eq_true, beq_iff_eq] at this
  exact ⟨this.1, this.2.1, this.2.2.1, this.2.2.2⟩
theorem signs_call {F n : Nat} {p : Rule} {m : Mu} (h : IsRule p) : callN GT F (n + 1) 21 [.d (uD p)] m = .ok (.tuple ((sgn p).map iD)) m :=
  law_signs_eq h.len h.hi h.ne1 h.signs.1 h.signs.2.1 h.signs.2.2.1
@[simp] theorem ownS_od {kvs : List (PyData × PyData)} : ownS (some (.od kvs)) = some (.od kvs) := rfl
@[simp] theorem ownS_o {xs : List PyData} : ownS (some (.o xs)) = some (.o xs) := rfl
theorem storeIx_od {kvs : List (PyData × PyData)} {k d : PyData} (h : keyOk k = true) (hl : kvs.length ≤ big) : storeIx (.od kvs) k d = some (.od (putD k d kvs)) := by
  simp [storeIx, h, sz, hl]
theorem book_W {F n q : Nat} {m : Mu} (hm : Cl m) (hq1 : 1 ≤ q) (hq3 : q ≤ 3) {Q : PyData → Mu → Prop} (hQ : ∀ (b : List Rule) m', IsBook b → b ≠ [] → b.length ≤ 3 → (∀ p ∈ b, p.1.length ≤ q + 1) → Cl m' → Q (bD b) m') : W (callN GT F (n + 5) 22 [.cell, .d (.int ((q + 1 : Nat) : Int))] m) Q := by
  refine W_call f_law_book rfl rfl ?_
  have hbig : 1000 ≤ big := by decide
  simp [f_law_book, b_law_book, startS, slOf]
  refine taken_W (k := 9) hm (by omega) (by omega) fun w m1 hw hm1 => ?_
  obtain ⟨d, m2, e, t, rfl, ht, hm2⟩ : W (callN GT F (n + 4) 16 [.cell, .d (.int 3)] m1) (fun d m' => ∃ v : Nat, d = .int v ∧ v < 3 ∧ Cl m') := taken_W (k := 3) hm1 (by omega) (by omega) fun v m' hv hm' => ⟨v, rfl, hv, hm'⟩
  refine W_for (fl := .c) (m' := m2) (List.range (t + 1)) nD (fun pre env m => Cl m ∧ ∃ (ks : List Rule) (a b c : Option Sl), env = [some .cell, some (.v (.int ((q : Int) + 1))), a, some (.v (.int w)), some (.od (kvT uD ks)), b, c] ∧ ks.Nodup ∧ (∀ p ∈ ks, IsRule p ∧ p.1.length ≤ q + 1) ∧ ks.length ≤ pre.length ∧ (pre ≠ [] → ks ≠ [])) ?_ ?_ ?_ ?_
  · exact r1 (fl := .c) (t + 1) (by simp [e, Int.add_comm]) (by omega)
  · exact ⟨hm2, [], none, none, none, rfl, by simp, by simp, by simp, by simp⟩
  · rintro pre a post env m3 K e ⟨hm3, ks, x, y, z, rfl, h1, h2, h3, h4⟩ hK _ _
    have hpre : pre.length ≤ t := by have := congrArg List.length e; simp at this; omega
    simp
    have fin : ∀ (p : Rule) m4, IsRule p → p.1.length ≤ q + 1 → Cl m4 → W (exs (callN GT F (n + 4)) F (.cons (.setIx 4 (.tup (.cons (.var 5) (.cons (.var 6) .nil))) (.lit (.bool true))) .nil) [some .cell, some (.v (.int ((q : Int) + 1))), some (.v (nD a)), some (.v (.int w)), some (.od (kvT uD ks)), some (.v (rD p.1)), some (.v (rD p.2))] m4) K := by
      intro p m4 hp hpl hm4
      have hlen : (kvT uD ks).length ≤ big := by simp [kvT]; omega
      have hi := length_insK ks p
      simp
      rw [storeIx_od (keyOk_uD hp.ne1 hp.ne2) hlen, putD_T uD_inj' p]
      simp
      refine hK _ _ ⟨hm4, insK ks p, _, _, _, rfl, nodup_insK h1, fun r hr => ?_, by simp; omega, fun _ h => ?_⟩
      · rcases mem_insK.mp hr with hr | rfl
        · exact h2 r hr
        · exact ⟨hp, hpl⟩
      · have : p ∈ insK ks p := mem_insK.mpr (.inr rfl)
        rw [h] at this; simp at this
    refine rule_W hm3 hq1 hq3 fun p m4 hp hpl hm4 => ?_
    simp
    have e0 : ((w : Int) < 6) ↔ w < 6 := by omega
    by_cases hw6 : w < 6
    · have hl6 : w < (sgn p).length := hw6
      simp [e0, hw6, signs_call hp, ix_m hl6]
      by_cases hs : (sgn p)[w] < 0
      · simp [hs]
        simpa using fin (p.2, p.1) m4 hp.swap (by rw [hp.len]; exact hpl) hm4
      · simp [hs]
        simpa using fin p m4 hp hpl hm4
    · simp [e0, hw6]
      simpa using fin p m4 hp hpl hm4
  · rintro env m3 ⟨hm3, ks, x, y, z, rfl, h1, h2, h3, h4⟩
    have hs : sortable (ks.map uD) = true := sortable_U (fun p hp => (h2 p hp).1) (by simp at h3; omega)
    have hk : b1D .keys (.dict (kvT uD ks)) = some (.list ((sortG ltU ks).map uD), .f) := by
      show (if sortable ((kvT uD ks).map (·.1)) then some (PyData.list (sortD ((kvT uD ks).map (·.1))), Fl.f) else none) = _
      rw [map_kvT, if_pos hs, sortD_G (fun _ _ => ltD_U)]
    simp [hk, hm.same hm3]
    refine hQ _ m3 ⟨sortG_up lo_U h1, fun p hp => (h2 p (mem_sortG.mp hp)).1⟩ (fun h => ?_) ?_ (fun p hp => (h2 p (mem_sortG.mp hp)).2) hm3
    · have := length_sortG (lt := ltU) ks
      rw [h] at this
      exact h4 (by simp) (List.length_eq_zero_iff.mp this.symm)
    · rw [length_sortG]; simp at h3; omega
end Tw
set_option Elab.async false
set_option linter.all false
set_option maxRecDepth 100000
set_option maxHeartbeats 4000000
/-! The program's looks at rows, rules, books. -/
namespace Tw
open PySem
theorem is_in_int {F n : Nat} {v a b : Int} {m : Mu} : callN GT F (n + 1) 0 [.d (.int v), .d (.int a), .d (.int b)] m = .ok (.bool (decide (a ≤ v ∧ v ≤ b))) m := by
  rw [callN_eq (fn := f_is_in) rfl rfl]
  simp [f_is_in, b_is_in, startS, slOf]
  by_cases h : a ≤ v <;> simp [h, endF, sameM]
@[simp] theorem is_in_len {F n : Nat} {x k : Nat} {m : Mu} : callN GT F (n + 1) 0 [.d (.int x), .d (.int 0), .d (.int ((k : Int) - 1))] m = .ok (.bool (decide (x < k))) m := by
  rw [is_in_int]
  have : ((0 : Int) ≤ x ∧ (x : Int) ≤ (k : Int) - 1) ↔ x < k := by omega
  simp only [this]
@[simp] theorem is_in_nat {F n : Nat} {x k : Nat} {m : Mu} : callN GT F (n + 1) 0 [.d (.int x), .d (.int 0), .d (.int (k : Int))] m = .ok (.bool (decide (x ≤ k))) m := by
  rw [is_in_int]
  have : ((0 : Int) ≤ x ∧ (x : Int) ≤ (k : Int)) ↔ x ≤ k := by omega
  simp only [this]
theorem is_row_eq {F n : Nat} {r : List Nat} {m : Mu} (h : r.length < 64) : callN GT F (n + 2) 1 [.d (rD r)] m = .ok (.bool (decide (IsRow r))) m := by
  have hb : 64 ≤ big := by decide
  rw [callN_eq (fn := f_is_row) rfl rfl]
  simp [f_is_row, b_is_row, startS, slOf]
  rw [ev_comp1 r nD (fun x => !decide (x < r.length)) id nD .c ((Sq.t r).evI (by simp)) (by omega)]
  · rw [List.map_id]
    have hd : (dd r).length ≤ 100000 := by have := length_dd_le r; omega
    by_cases hr : ∀ x ∈ r, x < r.length
    · have e1 : r.filter (fun x => !decide (x < r.length)) = [] := by
        rw [List.filter_eq_nil_iff]; intro x hx; simp [hr x hx]
      simp [e1, b1_sortedSet (d := rD r) (l := r) rfl h, b1_lenSet (d := rD r) (l := r) rfl h, b1_listRange hd, endF, sameM, ← isRow_iff]
    · have h2 : ¬ IsRow r := fun h => hr h.lt
      have e1 : r.filter (fun x => !decide (x < r.length)) ≠ [] := by
        intro h; rw [List.filter_eq_nil_iff] at h
        exact hr fun x hx => by simpa using h x hx
      simp [e1, h2, endF, sameM]
  · intro x hx
    by_cases h : x < r.length <;> simp [h]
theorem isRule_iff {p : Rule} : IsRule p ↔ (IsRow p.1 ∧ IsRow p.2) ∧ (2 ≤ p.1.length ∧ p.1.length ≤ 4) ∧ sortN p.1 = sortN p.2 ∧ p.1 ≠ p.2 :=
  ⟨fun h => ⟨⟨h.row, h.row2⟩, ⟨h.lo, h.hi⟩, sortN_eq_iff.mpr h.perm, h.ne⟩, fun ⟨⟨h1, _⟩, ⟨h3, h4⟩, h5, h6⟩ => ⟨h3, h4, h1, sortN_eq_iff.mp h5, h6⟩⟩
instance (p : Rule) : Decidable (IsRule p) := decidable_of_iff' _ isRule_iff
theorem is_rule_eq {F n : Nat} {p : Rule} {m : Mu} (h1 : p.1.length < 64) (h2 : p.2.length < 64) : callN GT F (n + 3) 2 [.d (uD p)] m = .ok (.bool (decide (IsRule p))) m := by
  have hb : 64 ≤ big := by decide
  rw [callN_eq (fn := f_is_rule) rfl rfl]
  simp [f_is_rule, b_is_rule, startS, slOf, is_row_eq h1, is_row_eq h2]
  by_cases g1 : IsRow p.1
  · by_cases g2 : IsRow p.2
    · simp [g1, g2, b1_sorted (d := rD p.1) (l := p.1) rfl (by omega), b1_sorted (d := rD p.2) (l := p.2) rfl (by omega)]
      have e2 : ((2 : Int) ≤ p.1.length) ↔ 2 ≤ p.1.length := by omega
      have e4 : ((p.1.length : Int) ≤ 4) ↔ p.1.length ≤ 4 := by omega
      have e5 : IsRule p ↔ (2 ≤ p.1.length ∧ p.1.length ≤ 4) ∧ sortN p.1 = sortN p.2 ∧ p.1 ≠ p.2 := by rw [isRule_iff]; simp [g1, g2]
      simp only [e2, e4, e5]
      by_cases c1 : 2 ≤ p.1.length <;> by_cases c2 : p.1.length ≤ 4 <;> simp [c1, c2, endF, sameM]
    · have : ¬ IsRule p := fun h => g2 h.row2
      simp [g1, g2, this, endF, sameM]
  · have : ¬ IsRule p := fun h => g1 h.row
    simp [g1, this, endF, sameM]
end Tw
set_option Elab.async false
set_option linter.all false
set_option maxRecDepth 100000
set_option maxHeartbeats 4000000
/-! need_book, need_row, spots. -/
namespace Tw
open PySem
theorem enumD_eq : ∀ (xs : List PyData) (k : Nat), (enumD (k : Int) xs).map PyData.tuple = (List.range' k xs.length).map fun i => .tuple [nD i, xs.getD (i - k) .none]
  | [], k => rfl
  | x :: xs, k => by
    have ih := enumD_eq xs (k + 1)
    rw [enumD, List.map_cons, List.length_cons, List.range'_succ, List.map_cons]
    have e1 : ((k : Int) + 1) = ((k + 1 : Nat) : Int) := rfl
    rw [e1, ih]
    congr 1
    · simp
    · refine List.map_congr_left fun i hi => ?_
      have := (List.mem_range'_1.mp hi).1
      have e2 : i - k = (i - (k + 1)) + 1 := by omega
      rw [e2]; simp
theorem enum_map {α : Type} {e : α → PyData} {l : List α} (z : α) : (enumD 0 (l.map e)).map PyData.tuple = (List.range l.length).map fun i => .tuple [nD i, e (l.getD i z)] := by
  have := enumD_eq (l.map e) 0
  rw [show ((0 : Nat) : Int) = 0 from rfl] at this
  rw [this, List.length_map, List.range_eq_range']
  refine List.map_congr_left fun i hi => ?_
  have hi := (List.mem_range'_1.mp hi).2
  have : i < l.length := by omega
  simp [List.getD, this]
theorem evI_en {α : Type} {e : α → PyData} {l : List α} (z : α) {C : Calls} {env : Ev} {i : Nat} {m : Mu} (hg : getS env i = some (.v (.tuple (l.map e)))) : evI C (.enum (.var i)) env m = .ok ((List.range l.length).map fun i => .tuple [nD i, e (l.getD i z)], .c) m := by
  rw [← enum_map z]; simp [hg, joinF]
theorem range_pos {n a : Nat} {p q : List Nat} (h : List.range n = p ++ a :: q) : a = p.length ∧ a < n := by
  have h1 : (List.range n)[p.length]? = some a := by rw [h]; simp
  have h2 : p.length < n := by have := congrArg List.length h; simp at this; omega
  rw [List.getElem?_range h2] at h1
  simp at h1
  omega
theorem alikeU_U {p q : Rule} (hp : IsRule p) (hq : IsRule q) : alikeU (uD p) (uD q) = true := by
  unfold alikeU; rw [uni2_uD hp.ne1 hp.ne2, uni2_uD hq.ne1 hq.ne2]; simp
theorem cmp_le_U {p q : Rule} (hp : IsRule p) (hq : IsRule q) : cmpD .le (uD p) (uD q) = some (!ltU q p) := by
  show (if alikeU (uD p) (uD q) then some (!ltD (uD q) (uD p)) else none) = _
  rw [alikeU_U hp hq, ltD_U]; rfl
theorem need_book_eq {F n : Nat} {b : List Rule} {m : Mu} (hb : IsBook b) (hl : b.length ≤ 8) : callN GT F (n + 4) 3 [.d (bD b)] m = .ok .none m := by
  refine W.eq (W_call f_need_book rfl rfl ?_)
  simp [f_need_book, b_need_book, startS, slOf]
  have h8 : ¬ (8 < (b.length : Int)) := by omega
  simp [h8]
  refine W_for (fl := .c) (m' := m) (List.range b.length) (fun i => .tuple [nD i, uD (b.getD i ([], []))]) (fun pre env m' => m' = m ∧ ∃ (x y : Option Sl), env = [some (.v (bD b)), x, y]) ?_ ?_ ?_ ?_
  · exact evI_en ([], []) (by simp)
  · exact ⟨rfl, none, none, rfl⟩
  · rintro pre i post env _ K e ⟨rfl, x, y, rfl⟩ hK _ _
    obtain ⟨e1, hi⟩ := range_pos e
    have hg : b.getD i ([], []) = b[i] := by simp [List.getD, hi]
    have hr : IsRule b[i] := hb.rule _ (List.getElem_mem hi)
    rw [hg]
    simp
    rw [is_rule_eq (by have := hr.hi; omega) (by have := hr.hi; have := hr.len; omega)]
    simp [hr]
    by_cases h0 : i = 0
    · simp [h0]
      exact hK _ _ ⟨rfl, _, _, rfl⟩
    · have hi1 : i - 1 < b.length := by omega
      have hr1 : IsRule b[i - 1] := hb.rule _ (List.getElem_mem hi1)
      have e3 : (i : Int) - 1 = ((i - 1 : Nat) : Int) := by omega
      have hlt : ltU b[i - 1] b[i] = true := List.pairwise_iff_getElem.mp hb.up (i - 1) i hi1 hi (by omega)
      have h00 : 0 < i := by omega
      simp only [e3, ix_m hi1]
      have := cmp_le_U hr hr1
      simp [h00, this, hlt]
      exact hK _ _ ⟨rfl, _, _, rfl⟩
  · rintro env _ ⟨rfl, x, y, rfl⟩
    simp
theorem need_row_eq {F n k : Nat} {r : List Nat} {m : Mu} (hr : IsRow r) (hl : r.length ≤ k) (hk : k < 64) : callN GT F (n + 3) 4 [.d (rD r), .d (.int k)] m = .ok .none m := by
  refine W.eq (W_call f_need_row rfl rfl ?_)
  have h8 : ¬ ((k : Int) < (r.length : Int)) := by omega
  simp [f_need_row, b_need_row, startS, slOf, h8]
  refine W_for (fl := .c) (m' := m) (List.range r.length) (fun i => .tuple [nD i, nD (r.getD i 0)]) (fun pre env m' => m' = m ∧ ∃ (x y : Option Sl), env = [some (.v (rD r)), some (.v (.int k)), x, y]) ?_ ?_ ?_ ?_
  · exact evI_en 0 (by simp)
  · exact ⟨rfl, none, none, rfl⟩
  · rintro pre i post env _ K e ⟨rfl, x, y, rfl⟩ hK _ _
    obtain ⟨e1, hi⟩ := range_pos e
    have hlt : r.getD i 0 < r.length := by rw [← getD_lt hi]; exact hr.lt _ (List.getElem_mem hi)
    simp only [bindG_t, bindGs_cons, bindG_n, bindGs_nil, setS_succ, setS_zero, exs_cons, ex_ifs, ev_not, ev_call, evA_cons, isCell_var, getS_succ, getS_zero, ev_var, Out.bind_ok, keepD_c, isCell_lit, ev_lit, isCell_bin, ev_bin, ev_b1, b1_len_t, List.length_map, Out.of_some, bin_sub_i, evA_nil, is_in_len, hlt, decide_true, notD_b, Bool.not_true, bb_f, exs_nil, nx_next, W_ok]
    exact hK _ _ ⟨rfl, _, _, rfl⟩
  · rintro env _ ⟨rfl, x, y, rfl⟩
    simp [is_row_eq (show r.length < 64 by omega), hr]
end Tw
set_option Elab.async false
set_option linter.all false
set_option maxRecDepth 100000
set_option maxHeartbeats 4000000
/-! spots, rows. -/
namespace Tw
open PySem
/-- a name that holds a list, its own or not -/
def Hl (s : Sl) (xs : List PyData) : Prop := s = .o xs ∨ s = .v (.list xs)
theorem flat_pre {α β : Type} {f : α → List β} {l p q : List α} {a : α} (h : l = p ++ a :: q) : (p.flatMap f).length + (f a).length ≤ (l.flatMap f).length := by
  subst h; simp [List.flatMap_append]
def fstOf (l : List Nat) : Nat := match l.getLast? with | some x => x + 1 | none => 0
def extS (many : Nat) (l : List Nat) : List (List Nat) := (List.range' (fstOf l) (many - fstOf l)).map fun i => l ++ [i]
theorem spots_succ (many k : Nat) : spots many (k + 1) = (spots many k).flatMap (extS many) := rfl
theorem fst_le {many k : Nat} {l : List Nat} (h : l ∈ spots many k) : fstOf l ≤ many := by
  unfold fstOf
  cases hg : l.getLast? with
  | none => simp
  | some z =>
    obtain ⟨l2, rfl⟩ := List.getLast?_eq_some_iff.mp hg
    exact (mem_spots.mp h).2.2 z (by simp)
theorem pow_le_big {many long k : Nat} (h : many ^ long ≤ big) (hm : 0 < many) (hk : k ≤ long) : many ^ k ≤ big := Nat.le_trans (Nat.pow_le_pow_right hm hk) h
theorem ix_last1 {α : Type} {e : α → PyData} {xs : List α} {z : α} (h : xs.getLast? = some z) : ixD (.tuple (xs.map e)) (.int (-1)) = some (e z) := by
  have hne : xs.map e ≠ [] := fun h2 => by rw [List.map_eq_nil_iff] at h2; rw [h2] at h; cases h
  show L2.atI (xs.map e) (-1) = _
  rw [atI_m1 hne, List.getLast?_map, h]; rfl
theorem cat1 {r : List Nat} {i : Nat} (h : r.length < 1000) : binD .add (.tuple (r.map nD)) (.tuple [.int i]) = some (rD (r ++ [i]), .c) := by
  have : (1000 : Nat) ≤ big := by decide
  rw [bin_add_t (by simp; omega)]; simp
theorem first_ev {C : Calls} {env : Ev} {m : Mu} {j : Nat} {a : List Nat} (hj : getS env j = some (.v (rD a))) : ev C (.ite (.cmp .ne (.var j) (.tup .nil)) (.bin .add (.ix (.var j) (.neg (.lit (.int 1)))) (.lit (.int 1))) (.lit (.int 0))) env m = .ok (.int (fstOf a), .c) m := by
  cases hg : a.getLast? with
  | none => rw [List.getLast?_eq_none_iff] at hg; subst hg; simp [hj, fstOf]
  | some z =>
    have hne : a ≠ [] := fun h2 => by rw [h2] at hg; cases hg
    simp [hj, hne, ix_last1 hg, fstOf, hg]
theorem spots_eq {F n many long : Nat} {m : Mu} (h : many ^ long ≤ big) (h0 : 0 < many ∨ long ≤ big) (hl : long ≤ 900) (hm : many ≤ 1000000) : callN GT F (n + 1) 5 [.d (.int many), .d (.int long)] m = .ok (.list ((spots many long).map rD)) m := by
  have hbig : 1000000 ≤ big := by decide
  have hlen : ∀ k ≤ long, (spots many k).length ≤ big := fun k hk => by
    by_cases h00 : many = 0
    · subst h00
      have := length_spots 0 k
      cases k with
      | zero => simp at this; omega
      | succ k => rw [Nat.pow_succ, Nat.mul_zero] at this; omega
    · exact Nat.le_trans (length_spots many k) (pow_le_big h (by omega) hk)
  refine W.eq (W_call f_spots rfl rfl ?_)
  simp [f_spots, b_spots, startS, slOf]
  refine W_for (fl := .c) (m' := m) (List.range long) nD (fun pre env m' => m = m' ∧ ∃ (s : Sl) (a b c d e : Option Sl), env = [some (.v (.int many)), some (.v (.int long)), some s, a, b, c, d, e] ∧ Hl s ((spots many pre.length).map rD)) ?_ ?_ ?_ ?_
  · exact r1 (fl := .c) long (by simp) (by omega)
  · exact ⟨rfl, _, _, _, _, _, _, rfl, .inl rfl⟩
  · rintro pre t post env _ K e ⟨rfl, s, x1, x2, x3, x4, x5, rfl, hs⟩ hK _ _
    obtain ⟨e1, ht⟩ := range_pos e
    have hfreeze : ∀ (C : Calls) (F : Nat) (r : Sms), exs C F (.cons (.freeze 2) r) [some (.v (.int many)), some (.v (.int long)), some s, some (.v (nD t)), some (.o []), x3, x4, x5] m = exs C F r [some (.v (.int many)), some (.v (.int long)), some (.v (.list ((spots many pre.length).map rD))), some (.v (nD t)), some (.o []), x3, x4, x5] m := fun C F r => by
      rcases hs with rfl | rfl <;> simp [slD]
    simp only [bindG_n, setS_succ, setS_zero, exs_cons, ex_set, ev_lst, evs_nil, Out.bind_ok, setV_fl, Option.map_some, Out.of_some, nx_next]
    rw [← exs_cons, hfreeze]
    rw [exs_cons]
    refine W_bind.mpr (W_for (fl := .c) (m' := m) (spots many pre.length) rD (fun pre2 env m' => m = m' ∧ ∃ (c d e : Option Sl), env = [some (.v (.int many)), some (.v (.int long)), some (.v (.list ((spots many pre.length).map rD))), some (.v (nD t)), some (.o ((pre2.flatMap (extS many)).map rD)), c, d, e]) ?_ ?_ ?_ ?_)
    · simp [joinF]
    · exact ⟨rfl, _, _, _, rfl⟩
    · rintro pre2 a post2 env _ K2 e2 ⟨rfl, y1, y2, y3, rfl⟩ hK2 _ _
      have ha : a ∈ spots many pre.length := by rw [e2]; simp
      have hla := (mem_spots.mp ha).1
      have hf := fst_le ha
      have hsz : ((pre2.flatMap (extS many)).map rD).length + ((extS many a).map rD).length ≤ big := by
        have := flat_pre (f := extS many) e2
        rw [← spots_succ] at this
        have := hlen (pre.length + 1) (by omega)
        simp only [List.length_map]; omega
      simp only [bindG_n, setS_succ, setS_zero, exs_cons, ex_set]
      rw [first_ev (a := a) (by simp)]
      simp only [Out.bind_ok, setV_c, Option.map_some, Out.of_some, nx_next, setS_succ, setS_zero, exs_cons, ex_set, ev_bin, ev_var, getS_succ, getS_zero]
      rw [ev_comp0 (List.range' (fstOf a) (many - fstOf a)) nD (fun i => a ++ [i]) rD .c (r2 (fl := .c) (fl' := .c) (fstOf a) many (by simp) (by simp) (by omega) hm) (by simp; omega)]
      · simp only [Out.bind_ok]
        have : (List.range' (fstOf a) (many - fstOf a)).map (fun i => a ++ [i]) = extS many a := rfl
        rw [this, bin_add_l hsz]
        simp
        exact hK2 _ _ ⟨rfl, _, _, _, by rw [List.flatMap_append]; simp; exact ⟨rfl, rfl, rfl⟩⟩
      · intro i hi
        simp [cat1 (r := a) (i := i) (by omega)]
    · rintro env _ ⟨rfl, y1, y2, y3, rfl⟩
      simp [slD]
      exact hK _ _ ⟨rfl, _, _, _, _, _, _, rfl, .inr (by rw [← spots_succ]; simp)⟩
  · rintro env _ ⟨rfl, s, x1, x2, x3, x4, x5, rfl, hs⟩
    rw [List.length_range] at hs
    rcases hs with rfl | rfl <;> simp [slD]
end Tw
set_option Elab.async false
set_option linter.all false
set_option maxRecDepth 100000
set_option maxHeartbeats 4000000
/-! the law's spots -/
namespace Tw
open PySem
theorem law_spots_eq {F n many long : Nat} {m : Mu} (h : many ^ long ≤ big) (h0 : 0 < many ∨ long ≤ big) (hl : long ≤ 900) (hm : many ≤ 1000000) : callN GT F (n + 1) 24 [.d (.int many), .d (.int long)] m = .ok (.list ((spots many long).map rD)) m := by
  have hbig : 1000000 ≤ big := by decide
  have hlen : ∀ k ≤ long, (spots many k).length ≤ big := fun k hk => by
    by_cases h00 : many = 0
    · subst h00
      have := length_spots 0 k
      cases k with
      | zero => simp at this; omega
      | succ k => rw [Nat.pow_succ, Nat.mul_zero] at this; omega
    · exact Nat.le_trans (length_spots many k) (pow_le_big h (by omega) hk)
  refine W.eq (W_call f_law_spots rfl rfl ?_)
  simp [f_law_spots, b_law_spots, startS, slOf]
  refine W_for (fl := .c) (m' := m) (List.range long) nD (fun pre env m' => m = m' ∧ ∃ (s : Sl) (a b c d : Option Sl), env = [some (.v (.int many)), some (.v (.int long)), some s, a, b, c, d] ∧ Hl s ((spots many pre.length).map rD)) ?_ ?_ ?_ ?_
  · exact r1 (fl := .c) long (by simp) (by omega)
  · exact ⟨rfl, _, _, _, _, _, rfl, .inl rfl⟩
  · rintro pre t post env _ K e ⟨rfl, s, x1, x2, x3, x4, rfl, hs⟩ hK _ _
    obtain ⟨e1, ht⟩ := range_pos e
    have hfreeze : ∀ (C : Calls) (F : Nat) (r : Sms), exs C F (.cons (.freeze 2) r) [some (.v (.int many)), some (.v (.int long)), some s, some (.v (nD t)), some (.o []), x3, x4] m = exs C F r [some (.v (.int many)), some (.v (.int long)), some (.v (.list ((spots many pre.length).map rD))), some (.v (nD t)), some (.o []), x3, x4] m := fun C F r => by
      rcases hs with rfl | rfl <;> simp [slD]
    simp only [bindG_n, setS_succ, setS_zero, exs_cons, ex_set, ev_lst, evs_nil, Out.bind_ok, setV_fl, Option.map_some, Out.of_some, nx_next]
    rw [← exs_cons, hfreeze]
    rw [exs_cons]
    refine W_bind.mpr (W_for (fl := .c) (m' := m) (spots many pre.length) rD (fun pre2 env m' => m = m' ∧ ∃ (c d : Option Sl), env = [some (.v (.int many)), some (.v (.int long)), some (.v (.list ((spots many pre.length).map rD))), some (.v (nD t)), some (.o ((pre2.flatMap (extS many)).map rD)), c, d]) ?_ ?_ ?_ ?_)
    · simp [joinF]
    · exact ⟨rfl, _, _, rfl⟩
    · rintro pre2 a post2 env _ K2 e2 ⟨rfl, y1, y2, rfl⟩ hK2 _ _
      have ha : a ∈ spots many pre.length := by rw [e2]; simp
      have hla := (mem_spots.mp ha).1
      have hf := fst_le ha
      have hsz : ((pre2.flatMap (extS many)).map rD).length + ((extS many a).map rD).length ≤ big := by
        have := flat_pre (f := extS many) e2
        rw [← spots_succ] at this
        have := hlen (pre.length + 1) (by omega)
        simp only [List.length_map]; omega
      simp only [bindG_n, setS_succ, setS_zero, exs_cons, ex_set]
      simp only [ev_bin, ev_var, getS_succ, getS_zero, Out.bind_ok]
      rw [ev_comp0 (List.range' (fstOf a) (many - fstOf a)) nD (fun i => a ++ [i]) rD .c (r2 (fl := .c) (fl' := .c) (fstOf a) many (first_ev (a := a) (by simp)) (by simp) (by omega) hm) (by simp; omega)]
      · simp only [Out.bind_ok]
        have : (List.range' (fstOf a) (many - fstOf a)).map (fun i => a ++ [i]) = extS many a := rfl
        rw [this, bin_add_l hsz]
        simp
        exact hK2 _ _ ⟨rfl, _, _, by rw [List.flatMap_append]; simp; exact ⟨rfl, rfl⟩⟩
      · intro i hi
        simp [cat1 (r := a) (i := i) (by omega)]
    · rintro env _ ⟨rfl, y1, y2, rfl⟩
      simp [slD]
      exact hK _ _ ⟨rfl, _, _, _, _, _, rfl, .inr (by rw [← spots_succ]; simp)⟩
  · rintro env _ ⟨rfl, s, x1, x2, x3, x4, rfl, hs⟩
    rw [List.length_range] at hs
    rcases hs with rfl | rfl <;> simp [slD]
end Tw
set_option Elab.async false
set_option linter.all false
set_option maxRecDepth 100000
set_option maxHeartbeats 4000000
/-! all rows of so many numbers -/
namespace Tw
open PySem
theorem Hl.evI {s : Sl} {xs : List PyData} (h : Hl s xs) {C : Calls} {env : Ev} {i : Nat} {m : Mu} (hg : getS env i = some s) : ∃ fl, evI C (.val (.var i)) env m = .ok (xs, fl) m := by
  rcases h with rfl | rfl
  · exact ⟨.b, by simp [hg, joinF]⟩
  · exact ⟨.c, by simp [hg, joinF]⟩
def extT (many : Nat) (l : List Nat) : List (List Nat) := (List.range many).map fun i => l ++ [i]
theorem tuples_succ (many k : Nat) : tuples many (k + 1) = (tuples many k).flatMap (extT many) := rfl
theorem tuples_big {many k : Nat} (hm : many ≤ 6) (hk : k ≤ many) : (tuples many k).length ≤ big := by
  rw [length_tuples]
  have h1 : many ^ k ≤ 6 ^ k := Nat.pow_le_pow_left hm k
  have h2 : 6 ^ k ≤ 6 ^ 6 := Nat.pow_le_pow_right (by omega) (by omega)
  have h3 : 6 ^ 6 ≤ big := by decide
  omega
/-- the two loops that make tuples -/
theorem tuples_W {C : Calls} {F many : Nat} {m : Mu} {Q : Flo × Ev → Mu → Prop} (hm : many ≤ 6)
    (hq : ∀ (s : Sl) (a b c d : Option Sl), Hl s ((tuples many many).map rD) → Q (.next, [some (.v (.int many)), some s, a, b, c, d]) m) :
    W (ex C F (.for (.n 2) (.range1 (.var 0)) (.cons (.set 3 (.lst .nil)) (.cons (.freeze 1) (.cons (.for (.n 4) (.val (.var 1)) (.cons (.set 3 (.bin .add (.var 3) (.comp0 (.bin .add (.var 4) (.tup (.cons (.var 5) .nil))) (.n 5) (.range1 (.var 0)) [5]))) .nil)) (.cons (.freeze 3) (.cons (.set 1 (.var 3)) .nil)))))) [some (.v (.int many)), some (.o [.tuple []]), none, none, none, none] m) Q := by
  have hbig : 1000000 ≤ big := by decide
  refine W_for (fl := .c) (m' := m) (List.range many) nD (fun pre env m' => m = m' ∧ ∃ (s : Sl) (a b c d : Option Sl), env = [some (.v (.int many)), some s, a, b, c, d] ∧ Hl s ((tuples many pre.length).map rD)) ?_ ?_ ?_ ?_
  · exact r1 (fl := .c) many (by simp) (by omega)
  · exact ⟨rfl, _, _, _, _, _, rfl, .inl rfl⟩
  · rintro pre t post env _ K e ⟨rfl, s, x1, x2, x3, x4, rfl, hs⟩ hK _ _
    obtain ⟨e1, ht⟩ := range_pos e
    have hfreeze : ∀ (C : Calls) (F : Nat) (r : Sms), exs C F (.cons (.freeze 1) r) [some (.v (.int many)), some s, some (.v (nD t)), some (.o []), x3, x4] m = exs C F r [some (.v (.int many)), some (.v (.list ((tuples many pre.length).map rD))), some (.v (nD t)), some (.o []), x3, x4] m := fun C F r => by
      rcases hs with rfl | rfl <;> simp [slD]
    simp only [bindG_n, setS_succ, setS_zero, exs_cons, ex_set, ev_lst, evs_nil, Out.bind_ok, setV_fl, Option.map_some, Out.of_some, nx_next]
    rw [← exs_cons, hfreeze]
    rw [exs_cons]
    refine W_bind.mpr (W_for (fl := .c) (m' := m) (tuples many pre.length) rD (fun pre2 env m' => m = m' ∧ ∃ (c d : Option Sl), env = [some (.v (.int many)), some (.v (.list ((tuples many pre.length).map rD))), some (.v (nD t)), some (.o ((pre2.flatMap (extT many)).map rD)), c, d]) ?_ ?_ ?_ ?_)
    · simp [joinF]
    · exact ⟨rfl, _, _, rfl⟩
    · rintro pre2 a post2 env _ K2 e2 ⟨rfl, y1, y2, rfl⟩ hK2 _ _
      have ha : a ∈ tuples many pre.length := by rw [e2]; simp
      have hla := (mem_tuples.mp ha).1
      have hsz : ((pre2.flatMap (extT many)).map rD).length + ((extT many a).map rD).length ≤ big := by
        have := flat_pre (f := extT many) e2
        rw [← tuples_succ] at this
        have := tuples_big (k := pre.length + 1) hm (by omega)
        simp only [List.length_map]; omega
      simp only [bindG_n, setS_succ, setS_zero, exs_cons, ex_set]
      simp only [ev_bin, ev_var, getS_succ, getS_zero, Out.bind_ok]
      rw [ev_comp0 (List.range many) nD (fun i => a ++ [i]) rD .c (r1 (fl := .c) many (by simp) (by omega)) (by simp; omega)]
      · simp only [Out.bind_ok]
        have : (List.range many).map (fun i => a ++ [i]) = extT many a := rfl
        rw [this, bin_add_l hsz]
        simp
        exact hK2 _ _ ⟨rfl, _, _, by rw [List.flatMap_append]; simp; exact ⟨rfl, rfl⟩⟩
      · intro i hi
        simp [cat1 (r := a) (i := i) (by omega)]
    · rintro env _ ⟨rfl, y1, y2, rfl⟩
      simp [slD]
      exact hK _ _ ⟨rfl, _, _, _, _, _, rfl, .inr (by rw [← tuples_succ]; simp)⟩
  · rintro env _ ⟨rfl, s, x1, x2, x3, x4, rfl, hs⟩
    rw [List.length_range] at hs
    exact hq s _ _ _ _ hs
theorem all_rows_eq {F n many : Nat} {m : Mu} (hm : many ≤ 6) : callN GT F (n + 1) 58 [.d (.int many)] m = .ok (.list ((rowsL many).map rD)) m := by
  refine W.eq (W_call f_all_rows rfl rfl ?_)
  simp [f_all_rows, b_all_rows, startS, slOf]
  refine tuples_W hm fun s a b c d hs => ?_
  simp
  obtain ⟨fl, hfl⟩ := hs.evI (C := callN GT F n) (env := [some (.v (.int many)), some s, a, b, c, d]) (i := 1) (m := m) (by simp)
  rw [ev_comp1 (tuples many many) rD (fun r => decide (IsRow r)) id rD fl hfl (tuples_big hm (Nat.le_refl _))]
  · simp [rowsL]
  · intro r hr
    obtain ⟨h1, h2⟩ := mem_tuples.mp hr
    have h64 : r.length < 64 := by omega
    have hd : (dd r).length ≤ 100000 := by have := length_dd_le r; omega
    simp [b1_sortedSet (d := rD r) (l := r) rfl h64, b1_lenSet (d := rD r) (l := r) rfl h64, b1_listRange hd, ← isRow_iff]
theorem law_rows_eq {F n many : Nat} {m : Mu} (hm : many ≤ 6) : callN GT F (n + 2) 60 [.d (.int many)] m = .ok (.list ((rowsL many).map rD)) m := by
  refine W.eq (W_call f_law_rows rfl rfl ?_)
  simp [f_law_rows, b_law_rows, startS, slOf]
  refine tuples_W hm fun s a b c d hs => ?_
  simp
  obtain ⟨fl, hfl⟩ := hs.evI (C := callN GT F (n + 1)) (env := [some (.v (.int many)), some s, a, b, c, d]) (i := 1) (m := m) (by simp)
  rw [ev_comp1 (tuples many many) rD (fun r => decide (IsRow r)) id rD fl hfl (tuples_big hm (Nat.le_refl _))]
  · simp [rowsL]
  · intro r hr
    obtain ⟨h1, h2⟩ := mem_tuples.mp hr
    have h64 : r.length < 64 := by omega
    simp [law_lie_eq (Sq.t r) h64, IsRow]
    by_cases h : lieL r = r <;> simp [h]
end Tw
set_option Elab.async false
set_option linter.all false
set_option maxRecDepth 100000
set_option maxHeartbeats 4000000
/-! Rows at rest. -/
namespace Tw
open PySem
@[simp] theorem eqD_rl0 {l : List (List Nat)} : eqD (.list (l.map rD)) (.list []) = some (decide (l = [])) := by
  rw [eqD_nil (k := 1) (by intro x hx; obtain ⟨r, _, rfl⟩ := List.mem_map.mp hx; exact Pn_rD) (by omega)]
  cases l <;> simp
@[simp] theorem eqD_rlf {α : Type} {f : α → List Nat} {l : List α} : eqD (.list (l.map (rD ∘ f))) (.list []) = some (decide (l = [])) := by
  rw [eqD_nil (k := 1) (by intro x hx; obtain ⟨r, _, rfl⟩ := List.mem_map.mp hx; exact Pn_rD) (by omega)]
  cases l <;> simp
theorem pow_big {a k : Nat} (ha : a ≤ 50) (hk : k ≤ 4) : a ^ k ≤ big := by
  have h1 : a ^ k ≤ 50 ^ k := Nat.pow_le_pow_left ha k
  have h2 : 50 ^ k ≤ 50 ^ 4 := Nat.pow_le_pow_right (by omega) hk
  have h3 : 50 ^ 4 ≤ big := by decide
  omega
theorem spots_c {F n many long : Nat} {m : Mu} (hm : many ≤ 50) (hl : long ≤ 4) : callN GT F (n + 1) 5 [.d (.int many), .d (.int long)] m = .ok (.list ((spots many long).map rD)) m :=
  spots_eq (pow_big hm hl) (.inr (le_big (by omega))) (by omega) (by omega)
theorem law_spots_c {F n many long : Nat} {m : Mu} (hm : many ≤ 50) (hl : long ≤ 4) : callN GT F (n + 1) 24 [.d (.int many), .d (.int long)] m = .ok (.list ((spots many long).map rD)) m :=
  law_spots_eq (pow_big hm hl) (.inr (le_big (by omega))) (by omega) (by omega)
theorem lies_in_eq {F n : Nat} {o r : List Nat} {m : Mu} (hr : r.length ≤ 50) (ho : o.length ≤ 4) : callN GT F (n + 2) 100 [.d (rD o), .d (rD r)] m = .ok (.bool (liesIn o r)) m := by
  refine W.eq (W_call f_lies_in rfl rfl ?_)
  simp [f_lies_in, b_lies_in, startS, slOf]
  rw [ev_comp1 (spots r.length o.length) rD (fitsAt o r) id rD .c (by simp [spots_c hr ho, joinF]) (Nat.le_trans (length_spots _ _) (pow_big hr ho))]
  · simp
    unfold liesIn
    cases h : (spots r.length o.length).any (fitsAt o r) with
    | true => simpa using h
    | false => simpa using h
  · intro l hl
    have hb := mem_spots.mp hl
    simp
    rw [ev_comp0 l nD (fun i => r.getD i 0) nD .c (by simp [joinF]) (le_big (by omega))]
    · have : l.map (fun i => r.getD i 0) = pk r l := rfl
      rw [this]
      simp [lie_eq (Sq.l (pk r l)) (show (pk r l).length < 64 by rw [length_pk]; omega), fitsAt]
    · intro i hi
      simp [ix_r (hb.2.2 i hi)]
theorem is_calm_eq {F n : Nat} {b : List Rule} {r : List Nat} {m : Mu} (hr : r.length ≤ 50) (hb : ∀ p ∈ b, p.1.length ≤ 4) (hl : b.length ≤ 8) : callN GT F (n + 3) 101 [.d (bD b), .d (rD r)] m = .ok (.bool (calm b r)) m := by
  refine W.eq (W_call f_is_calm rfl rfl ?_)
  simp [f_is_calm, b_is_calm, startS, slOf]
  rw [ev_comp1 b uD (fun p => liesIn p.1 r) (fun p => p.1) rD .c (by simp [joinF]) (le_big (by omega))]
  · simp [calm]
    rw [Bool.eq_iff_iff]
    simp
  · intro p hp
    simp [lies_in_eq hr (hb p hp)]
theorem at_rest_eq {F n : Nat} {b : List Rule} {r : List Nat} {m : Mu} (hb : IsBook b) (hl : b.length ≤ 8) (hr : IsRow r) (hrl : r.length ≤ 12) : callN GT F (n + 5) 109 [.d (bD b), .d (rD r)] m = .ok (.bool (calm b r)) m := by
  refine W.eq (W_call f_at_rest rfl rfl ?_)
  have := need_row_eq (F := F) (n := n + 1) (k := 12) (m := m) hr hrl (by omega)
  simp at this
  simp [f_at_rest, b_at_rest, startS, slOf, need_book_eq hb hl, this, is_calm_eq (show r.length ≤ 50 by omega) (fun p hp => (hb.rule p hp).hi) hl]
theorem calm_count_eq {F n k : Nat} {b : List Rule} {m : Mu} (hb : IsBook b) (hl : b.length ≤ 8) (hk : k ≤ 5) : callN GT F (n + 5) 110 [.d (bD b), .d (.int k)] m = .ok (.int ((rowsL k).filter (calm b)).length) m := by
  refine W.eq (W_call f_calm_count rfl rfl ?_)
  have := is_in_nat (F := F) (n := n + 3) (x := k) (k := 5) (m := m)
  simp at this
  simp [f_calm_count, b_calm_count, startS, slOf, need_book_eq hb hl, this, hk]
  rw [ev_comp1 (rowsL k) rD (calm b) id rD .c (by simp [all_rows_eq (show k ≤ 6 by omega), joinF]) (Nat.le_trans (List.length_filter_le _ _) (tuples_big (by omega) (Nat.le_refl _)))]
  · simp
  · intro r hr
    have := (mem_rowsL.mp hr).1
    simp [is_calm_eq (show r.length ≤ 50 by omega) (fun p hp => (hb.rule p hp).hi) hl]
end Tw
set_option Elab.async false
set_option linter.all false
set_option maxRecDepth 100000
set_option maxHeartbeats 4000000
/-! The law's steps. -/
namespace Tw
open PySem
theorem storeIx_o {xs : List PyData} {i : Nat} {d : PyData} (h : i < xs.length) : storeIx (.o xs) (.int i) d = some (.o (xs.set i d)) := by
  simp [storeIx, h]
theorem sortable_R {l : List (List Nat)} {k : Nat} (h : ∀ r ∈ l, r.length = k) (hk : 0 < k ∨ l = []) (hl : l.length ≤ big) : sortable (l.map rD) = true := by
  have : (l.map rD).all (uni 1) = true := by
    rw [List.all_map, List.all_eq_true]
    intro r hr
    refine uni1_rD fun e => ?_
    have := h r hr
    rcases hk with hk | hk
    · rw [e] at this; simp at this; omega
    · rw [hk] at hr; simp at hr
  simp [sortable, sortable0, this, hl]
theorem keys_R {ks : List (List Nat)} {k : Nat} (h : ∀ r ∈ ks, r.length = k) (hk : 0 < k ∨ ks = []) (hl : ks.length ≤ big) : b1D .keys (.dict (kvT rD ks)) = some (.list ((sortG ltR ks).map rD), .f) := by
  show (if sortable ((kvT rD ks).map (·.1)) then some (PyData.list (sortD ((kvT rD ks).map (·.1))), Fl.f) else none) = _
  rw [map_kvT, if_pos (sortable_R h hk hl), sortD_G (fun _ _ => ltD_R)]
theorem allSteps_len {b : List Rule} {r t : List Nat} (h : t ∈ allSteps b r) : t.length = r.length := by
  unfold allSteps stepsOf at h
  simp only [List.mem_flatMap, List.mem_map] at h
  obtain ⟨p, _, l, _, rfl⟩ := h
  exact length_put _ _ _
theorem allSteps_nil {b : List Rule} (hp : ∀ p ∈ b, 2 ≤ p.1.length) : allSteps b [] = [] := by
  rw [List.eq_nil_iff_forall_not_mem]
  intro t ht
  unfold allSteps stepsOf at ht
  simp only [List.mem_flatMap, List.mem_map, List.mem_filter] at ht
  obtain ⟨p, hpb, l, ⟨hl, _⟩, _⟩ := ht
  obtain ⟨h1, _, h2⟩ := mem_spots.mp hl
  have := hp p hpb
  cases l with
  | nil => simp at h1; omega
  | cons x l => have := h2 x (by simp); simp at this
/-- what stands behind each beginning of the two loops -/
theorem doneSz {b : List Rule} {r : List Nat} {pre q : List Rule} {p : Rule} {s1 s2 : List (List Nat)} (hN : (allSteps b r).length ≤ big) (e : b = pre ++ p :: q) (e2 : spots r.length p.1.length = s1 ++ s2) : (keysOf (pre.flatMap (stepsOf r) ++ (s1.filter (fitsAt p.1 r)).map fun l => put r l p.2)).length ≤ big := by
  have h1 := length_keysOf (pre.flatMap (stepsOf r) ++ (s1.filter (fitsAt p.1 r)).map fun l => put r l p.2)
  have h2 := flat_pre (f := stepsOf r) e
  have h3 : ((s1.filter (fitsAt p.1 r)).map fun l => put r l p.2).length ≤ (stepsOf r p).length := by
    unfold stepsOf; rw [e2]; simp
  simp only [List.length_append] at *
  unfold allSteps at hN
  omega
theorem law_steps_eq {F n : Nat} {b : List Rule} {r : List Nat} {m : Mu} (hp : ∀ p ∈ b, IsRule p) (hl : b.length ≤ 8) (hr : r.length ≤ 12) : callN GT F (n + 2) 25 [.d (bD b), .d (rD r)] m = .ok (.list ((stepsL b r).map rD)) m := by
  have hbig : 1000000 ≤ big := by decide
  have hN : (allSteps b r).length ≤ big := by
    have := length_allSteps hr hl fun p h => (hp p h).hi
    have h3 : 8 * 12 ^ 4 ≤ big := by decide
    omega
  refine W.eq (W_call f_law_steps rfl rfl ?_)
  simp [f_law_steps, b_law_steps, startS, slOf]
  refine W_for (fl := .c) (m' := m) b uD (fun pre env m' => m = m' ∧ ∃ (x1 x2 x3 x4 x5 x6 x7 x8 : Option Sl), env = [some (.v (bD b)), some (.v (rD r)), some (.od (kvT rD (keysOf (pre.flatMap (stepsOf r))))), x1, x2, x3, x4, x5, x6, x7, x8]) ?_ ?_ ?_ ?_
  · simp [joinF]
  · exact ⟨rfl, _, _, _, _, _, _, _, _, rfl⟩
  · rintro pre p post env _ K e ⟨rfl, x1, x2, x3, x4, x5, x6, x7, x8, rfl⟩ hK _ _
    have hpb : p ∈ b := by rw [e]; simp
    have hR := hp p hpb
    simp
    refine W_for (fl := .c) (m' := m) (spots r.length p.1.length) rD (fun pre2 env m' => m = m' ∧ ∃ (x3 x4 x5 x6 x7 x8 : Option Sl), env = [some (.v (bD b)), some (.v (rD r)), some (.od (kvT rD (keysOf (pre.flatMap (stepsOf r) ++ (pre2.filter (fitsAt p.1 r)).map fun l => put r l p.2)))), some (.v (rD p.1)), some (.v (rD p.2)), x3, x4, x5, x6, x7, x8]) ?_ ?_ ?_ ?_
    · simp [law_spots_c (show r.length ≤ 50 by omega) hR.hi, joinF]
    · exact ⟨rfl, _, _, _, _, _, _, by simp; exact ⟨rfl, rfl, rfl, rfl, rfl, rfl⟩⟩
    · rintro pre2 l post2 env _ K2 e2 ⟨rfl, y3, y4, y5, y6, y7, y8, rfl⟩ hK2 _ _
      have hls : l ∈ spots r.length p.1.length := by rw [e2]; simp
      obtain ⟨hl1, hl2, hl3⟩ := mem_spots.mp hls
      have hR4 := hR.hi
      simp
      rw [ev_comp0 l nD (fun i => r.getD i 0) nD .c (by simp [joinF]) (le_big (by omega))]
      · have e3 : l.map (fun i => r.getD i 0) = pk r l := rfl
        have h64 : (pk r l).length < 64 := by rw [length_pk]; omega
        rw [e3]
        simp [slD, law_lie_eq (Sq.l (pk r l)) h64]
        by_cases hf : lieL (pk r l) = p.1
        · simp [hf, b1_sortedSet (d := .list ((pk r l).map nD)) (l := pk r l) rfl h64]
          refine W_for (fl := .c) (m' := m) (List.range l.length) nD (fun pre3 env m' => m = m' ∧ ∃ (x5 x6 : Option Sl), env = [some (.v (bD b)), some (.v (rD r)), some (.od (kvT rD (keysOf (pre.flatMap (stepsOf r) ++ (pre2.filter (fitsAt p.1 r)).map fun l => put r l p.2)))), some (.v (rD p.1)), some (.v (rD p.2)), some (.v (rD l)), some (.v (.list ((pk r l).map nD))), x5, x6, some (.o ((putAt r l (p.2.map fun k => (dist (pk r l)).getD k 0) pre3.length).map nD)), some (.o ((dist (pk r l)).map nD))]) ?_ ?_ ?_ ?_
          · exact r1 (fl := .c) l.length (by simp) (by omega)
          · exact ⟨rfl, _, _, rfl⟩
          · rintro pre3 k post3 env _ K3 e4 ⟨rfl, z5, z6, rfl⟩ hK3 _ _
            obtain ⟨e5, hk⟩ := range_pos e4
            have hk2 : k < p.2.length := by rw [hR.len]; omega
            have hv : p.2.getD k 0 < (dist (pk r l)).length := by
              have : p.2.getD k 0 ∈ p.2 := by rw [← getD_lt hk2]; exact List.getElem_mem hk2
              have := hR.perm.mem_iff.mpr this
              rw [← hf] at this
              exact mem_lie_lt this
            have hlk : l.getD k 0 < (putAt r l (p.2.map fun k => (dist (pk r l)).getD k 0) pre3.length).length := by
              rw [length_putAt]
              have : l.getD k 0 ∈ l := by rw [← getD_lt hk]; exact List.getElem_mem hk
              exact hl3 _ this
            have hlk2 : l.getD k 0 < ((putAt r l (p.2.map fun k => (dist (pk r l)).getD k 0) pre3.length).map nD).length := by rw [List.length_map]; exact hlk
            simp only [bindG_n, setS_succ, setS_zero, exs_cons, ex_setIx, ev_ix, ev_var, getS_succ, getS_zero, Out.bind_ok, ix_r hk2, ix_ml hv, Option.map_some, Out.of_some, keepD_c, ownS_o, ix_r hk, storeIx_o hlk2, nx_next, exs_nil, W_ok]
            refine hK3 _ _ ⟨rfl, ?_⟩
            have e6 : (p.2.map fun k => (dist (pk r l)).getD k 0).getD pre3.length 0 = (dist (pk r l))[p.2.getD k 0] := by
              rw [← e5, getD_lt hv]
              simp [List.getD, hk2]
            rw [List.length_append, List.length_singleton, putAt_succ, e6, ← e5, List.map_set]
            exact ⟨_, _, rfl⟩
          · rintro env _ ⟨rfl, z5, z6, rfl⟩
            rw [List.length_range]
            have e7 : putAt r l (p.2.map fun k => (dist (pk r l)).getD k 0) l.length = put r l p.2 := rfl
            rw [e7]
            have hs := doneSz hN e e2
            simp
            rw [storeIx_od keyOk_rD (by simpa [kvT] using hs), putD_T rD_inj']
            simp
            refine hK2 _ _ ⟨rfl, ?_⟩
            have e8 : fitsAt p.1 r l = true := by simp [fitsAt, hf]
            have e9 : pre.flatMap (stepsOf r) ++ ((pre2 ++ [l]).filter (fitsAt p.1 r)).map (fun l => put r l p.2) = (pre.flatMap (stepsOf r) ++ (pre2.filter (fitsAt p.1 r)).map fun l => put r l p.2) ++ [put r l p.2] := by
              simp [List.filter_append, e8]
            rw [e9, keysOf_append]
            simp
        · simp [hf]
          refine hK2 _ _ ⟨rfl, ?_⟩
          have e8 : fitsAt p.1 r l = false := by simp [fitsAt, hf]
          simp [List.filter_append, e8]
      · intro i hi
        simp [ix_r (hl3 i hi)]
    · rintro env _ ⟨rfl, y3, y4, y5, y6, y7, y8, rfl⟩
      simp
      refine hK _ _ ⟨rfl, ?_⟩
      have e10 : (pre ++ [p]).flatMap (stepsOf r) = pre.flatMap (stepsOf r) ++ ((spots r.length p.1.length).filter (fitsAt p.1 r)).map fun l => put r l p.2 := by
        rw [List.flatMap_append]; simp [stepsOf]
      rw [e10]
      simp
  · rintro env _ ⟨rfl, y1, y2, y3, y4, y5, y6, y7, y8, rfl⟩
    have e11 : b.flatMap (stepsOf r) = allSteps b r := rfl
    rw [e11]
    have hk : 0 < r.length ∨ keysOf (allSteps b r) = [] := by
      by_cases h0 : r = []
      · right; rw [h0, allSteps_nil fun p h => (hp p h).lo]; rfl
      · left; exact List.length_pos_iff.mpr h0
    have := keys_R (ks := keysOf (allSteps b r)) (k := r.length) (fun t ht => allSteps_len (mem_keysOf.mp ht)) hk (Nat.le_trans (length_keysOf _) hN)
    simp [this, stepsL]
end Tw
set_option Elab.async false
set_option linter.all false
set_option maxRecDepth 100000
set_option maxHeartbeats 4000000
/-! alike; only_calm. -/
namespace Tw
open PySem
mutual
def okA : PyData → Bool
  | .dict _ => false
  | .list xs => decide (xs.length ≤ 1000000) && okAs xs
  | .tuple xs => decide (xs.length ≤ 1000000) && okAs xs
  | .str x => plainD (.str x)
  | _ => true
def okAs : List PyData → Bool
  | [] => true
  | x :: xs => okA x && okAs xs
end
theorem okAs_mem : ∀ {xs : List PyData}, okAs xs = true → ∀ x ∈ xs, okA x = true
  | [], _, x, hx => by simp at hx
  | y :: ys, h, x, hx => by
    rw [okAs, Bool.and_eq_true] at h
    rcases List.mem_cons.mp hx with rfl | hx
    · exact h.1
    · exact okAs_mem h.2 x hx
theorem okAs_all : ∀ {xs : List PyData}, (∀ x ∈ xs, okA x = true) → okAs xs = true
  | [], _ => rfl
  | y :: ys, h => by rw [okAs, h y (by simp), okAs_all fun x hx => h x (by simp [hx])]; rfl
theorem depth_mem : ∀ {xs : List PyData} {k : Nat}, PyData.depthAll xs ≤ k → ∀ x ∈ xs, PyData.depth x ≤ k
  | [], _, _, x, hx => by simp at hx
  | y :: ys, k, h, x, hx => by
    rw [PyData.depthAll] at h
    rcases List.mem_cons.mp hx with rfl | hx
    · omega
    · exact depth_mem (by omega) x hx
theorem alike_same {F : Nat} {m : Mu} : ∀ (k : Nat) (d : PyData), okA d = true → PyData.depth d ≤ k → ∀ n, callN GT F (n + k + 1) 23 [.d d, .d d] m = .ok (.bool true) m := by
  have seq : ∀ (k : Nat) (xs : List PyData) (d : PyData) (b : Bool), (seqOf d = some xs) → (∀ i, (h : i < xs.length) → ixD d (.int (i : Int)) = some xs[i]) → b1D .isTupleList d = some (.bool true, .c) → b1D .isList d = some (.bool b, .c) → b1D .len d = some (.int xs.length, .c) → xs.length ≤ 1000000 → (∀ x ∈ xs, ∀ n, callN GT F (n + k + 1) 23 [.d x, .d x] m = .ok (.bool true) m) → ∀ n, callN GT F (n + (k + 1) + 1) 23 [.d d, .d d] m = .ok (.bool true) m := by
    intro k xs d b hs hix h1 h2 h3 hlen ih n
    have hbig : 1000000 ≤ big := by decide
    refine W.eq (W_call f_law_alike rfl rfl ?_)
    simp [f_law_alike, b_law_alike, startS, slOf, h1, h2, h3]
    rw [ev_comp1 (List.range xs.length) nD (fun _ => false) id nD .c (r1 (fl := .c) xs.length (by simp [h3]) hlen) (by simp; omega)]
    · simp
    · intro i hi
      have hi := List.mem_range.mp hi
      have := ih xs[i] (List.getElem_mem hi) n
      rw [Nat.add_assoc] at this
      simp [hix i hi, this]
  intro k
  induction k with
  | zero =>
    intro d h hd n
    refine W.eq (W_call f_law_alike rfl rfl ?_)
    cases d with
    | dict _ => cases h
    | list xs => simp [PyData.depth] at hd
    | tuple xs => simp [PyData.depth] at hd
    | none => simp [f_law_alike, b_law_alike, startS, slOf, show eqD .none .none = some true from rfl]
    | bool b => simp [f_law_alike, b_law_alike, startS, slOf]
    | int i => simp [f_law_alike, b_law_alike, startS, slOf]
    | str x =>
      have : eqD (.str x) (.str x) = some true := by rw [eqD_plain h h]; simp
      simp [f_law_alike, b_law_alike, startS, slOf, this]
  | succ k ih =>
    intro d h hd n
    have leaf : PyData.depth d = 0 → callN GT F (n + (k + 1) + 1) 23 [.d d, .d d] m = .ok (.bool true) m := fun h0 => by
      have := ih d h (by omega) (n + 1)
      rw [show n + (k + 1) + 1 = n + 1 + k + 1 by omega]; exact this
    cases d with
    | dict _ => cases h
    | list xs =>
      simp only [okA, Bool.and_eq_true, decide_eq_true_eq] at h
      simp only [PyData.depth] at hd
      exact seq k xs (.list xs) true rfl (fun i h => ix_l h) rfl rfl rfl h.1 (fun x hx n => ih x (okAs_mem h.2 x hx) (depth_mem (by omega) x hx) n) n
    | tuple xs =>
      simp only [okA, Bool.and_eq_true, decide_eq_true_eq] at h
      simp only [PyData.depth] at hd
      exact seq k xs (.tuple xs) false rfl (fun i h => ix_t h) rfl rfl rfl h.1 (fun x hx n => ih x (okAs_mem h.2 x hx) (depth_mem (by omega) x hx) n) n
    | none => exact leaf rfl
    | bool b => exact leaf rfl
    | int i => exact leaf rfl
    | str x => exact leaf rfl
theorem alike_int {F n : Nat} {i : Int} {m : Mu} : callN GT F (n + 1) 23 [.d (.int i), .d (.int i)] m = .ok (.bool true) m := alike_same 0 (.int i) rfl (Nat.le_refl _) n
theorem alike_bool {F n : Nat} {i : Bool} {m : Mu} : callN GT F (n + 1) 23 [.d (.bool i), .d (.bool i)] m = .ok (.bool true) m := alike_same 0 (.bool i) rfl (Nat.le_refl _) n
theorem alike_none {F n : Nat} {m : Mu} : callN GT F (n + 1) 23 [.d .none, .d .none] m = .ok (.bool true) m := alike_same 0 .none rfl (Nat.le_refl _) n
theorem okA_rD {r : List Nat} (h : r.length ≤ 1000000) : okA (rD r) = true := by
  rw [okA, okAs_all (by intro x hx; obtain ⟨i, _, rfl⟩ := List.mem_map.mp hx; rfl)]
  simp [h]
theorem alike_rD {F n : Nat} {r : List Nat} {m : Mu} (h : r.length ≤ 1000000) : callN GT F (n + 2) 23 [.d (rD r), .d (rD r)] m = .ok (.bool true) m :=
  alike_same 1 (rD r) (okA_rD h) (by simp [PyData.depth, depth_nD]) n
/-! ### the least of some orders -/
abbrev qD (r : List Nat) : PyData := .tuple [.int r.length, rD r]
def ltQ (a b : List Nat) : Bool := if a.length = b.length then ltR a b else decide (a.length < b.length)
def minG {α : Type} (lt : α → α → Bool) (x : α) : List α → α
  | [] => x
  | y :: ys => minG lt (if lt y x then y else x) ys
theorem minL_G {α : Type} {e : α → PyData} {lt : α → α → Bool} (h : ∀ a b, ltD (e a) (e b) = lt a b) : ∀ (l : List α) (x : α), minL (e x) (l.map e) = e (minG lt x l)
  | [], x => rfl
  | y :: l, x => by
    rw [List.map_cons, minL, minG, ← minL_G h l]
    congr 1
    rw [h]; split <;> rfl
theorem ltD_Q (a b : List Nat) : ltD (qD a) (qD b) = ltQ a b := by
  show ltDs [nD a.length, rD a] [nD b.length, rD b] = _
  rw [ltDs, ltDs, ltDs, beqD_n, beqD_dec, ltD_R, ltD_n]
  simp only [PyData.tuple.injEq, rD_inj, ltQ, decide_eq_true_eq]
  split
  · split
    · rename_i h; rw [h, ltR_irr]
    · rfl
  · rfl
theorem alike_nD : ∀ a b : List Nat, PySem.W.alikeAll (a.map nD) (b.map nD) = true
  | [], b => by rw [List.map_nil]; rfl
  | _ :: _, [] => rfl
  | x :: a, y :: b => by
    rw [List.map_cons, List.map_cons, PySem.W.alikeAll, alike_nD a b]; rfl
theorem intTrees_nD : ∀ a : List Nat, intTrees (a.map nD) = true
  | [] => rfl
  | x :: a => by rw [List.map_cons, intTrees, intTrees_nD a]; rfl
theorem cmpAll_Q (l : List (List Nat)) : cmpAll (l.map qD) = true := by
  have h1 : intTrees (l.map qD) = true := by
    induction l with
    | nil => rfl
    | cons a l ih => rw [List.map_cons, intTrees, ih]; simp [intTree, intTrees, intTrees_nD]
  have h2 : ((l.map qD).all fun x => (l.map qD).all fun y => PySem.W.alike x y) = true := by
    rw [List.all_map, List.all_eq_true]
    intro x _
    simp only [Function.comp_apply]
    rw [List.all_map, List.all_eq_true]
    intro y _
    simp [PySem.W.alike, PySem.W.alikeAll, alike_nD]
  unfold cmpAll; rw [h1, h2]; simp only [Bool.and_self, Bool.or_true]
theorem depth_Q (l : List (List Nat)) : PyData.depthAll (l.map qD) ≤ 2 := by
  induction l with
  | nil => simp [PyData.depthAll]
  | cons a l ih =>
    have := depth_nD a
    rw [List.map_cons, PyData.depthAll]
    simp only [PyData.depth, PyData.depthAll, this]
    omega
theorem b1_min_Q {x : List Nat} {l : List (List Nat)} : b1D .min (.list ((x :: l).map qD)) = some (qD (minG ltQ x l), .c) := by
  show (if cmpAll ((x :: l).map qD) && decide (PyData.depthAll ((x :: l).map qD) ≤ 40) then some (minL (qD x) (l.map qD), Fl.c) else none) = _
  have := depth_Q (x :: l)
  rw [cmpAll_Q, if_pos (by simp only [Bool.true_and, decide_eq_true_eq]; omega), minL_G ltD_Q]
theorem eqD_Q {l : List (List Nat)} : eqD (.list (l.map qD)) (.list []) = some (decide (l = [])) := by
  rw [eqD_nil (k := 2) (by intro x hx; obtain ⟨r, _, rfl⟩ := List.mem_map.mp hx; simp) (by omega)]
  cases l <;> simp
/-- the least order, None without any -/
def leastD (l : List (List Nat)) : PyData := match l with
  | [] => .none
  | x :: l => rD (minG ltQ x l)
theorem least_ev {C : Calls} {env : Ev} {m : Mu} {i : Nat} {l : List (List Nat)} (h : getS env i = some (.o (l.map qD))) : ∃ fl, fl ≠ .b ∧ ev C (.ite (.cmp .ne (.var i) (.lst .nil)) (.ix (.b1 .min (.var i)) (.lit (.int 1))) (.lit .none)) env m = .ok (leastD l, fl) m := by
  refine ⟨.c, by decide, ?_⟩
  cases l with
  | nil => simp [h, leastD]
  | cons x l => 
    have := b1_min_Q (x := x) (l := l)
    simp only [ev_ite, ev_cmp, ev_var, h, Out.bind_ok, ev_lst, evs_nil, cmp_ne, eqD_Q, Option.map_some, Out.of_some, ev_ix, ev_b1, this, ev_lit, leastD, ix_t1]
    simp
def callB (b o : List Rule) : List (List Nat) := (o.filter fun p => calm b p.1).map (·.1)
theorem only_calm_eq {F n : Nat} {b o : List Rule} {m : Mu} (hb : IsBook b) (hl : b.length ≤ 8) (ho : IsBook o) (hol : o.length ≤ 8) : callN GT F (n + 5) 111 [.d (bD b), .d (bD o)] m = .ok (leastD (callB b o)) m := by
  refine W.eq (W_call f_only_calm rfl rfl ?_)
  have hbig : 1000000 ≤ big := by decide
  simp [f_only_calm, b_only_calm, startS, slOf, need_book_eq hb hl, need_book_eq ho hol]
  rw [ev_comp1 o uD (fun p => calm b p.1) (fun p => p.1) qD .c (by simp [joinF]) (by omega)]
  · have : (o.filter fun p => calm b p.1).map (fun p => p.1) = callB b o := rfl
    rw [this]
    simp only [Out.bind_ok, setV_fl, setS_succ, setS_zero, Option.map_some, Out.of_some, W_ok, nx_next, exs_cons, ex_ret]
    obtain ⟨fl, hfl, he⟩ := least_ev (C := callN GT F (n + 4)) (env := [some (.v (bD b)), some (.v (bD o)), some (.o ((callB b o).map qD)), none, none]) (m := m) (i := 2) (l := callB b o) (by simp)
    rw [he]
    have : keepD (leastD (callB b o), fl) = some (leastD (callB b o)) := by cases fl <;> first | rfl | exact absurd rfl hfl
    simp [this]
  · intro p hp
    have := (ho.rule p hp).hi
    simp [is_calm_eq (show p.1.length ≤ 50 by omega) (fun p hp => (hb.rule p hp).hi) hl]
end Tw
set_option Elab.async false
set_option linter.all false
set_option maxRecDepth 100000
set_option maxHeartbeats 4000000
/-! Signs by the program. -/
namespace Tw
open PySem
/-- what comes behind one item of a loop -/
def fnx (body : PyData → Ev → Mu → Out (Flo × Ev)) (xs : List PyData) (r : Flo × Ev) (m : Mu) : Out (Flo × Ev) := match r.1 with
  | .next => forL body xs r.2 m
  | .brk => .ok (.next, r.2) m
  | .ret d => .ok (.ret d, r.2) m
section
variable {body : PyData → Ev → Mu → Out (Flo × Ev)} {xs : List PyData} {x : PyData} {e : Ev} {m : Mu} {d : PyData}
@[simp] theorem fnx_next : fnx body xs (.next, e) m = forL body xs e m := rfl
@[simp] theorem fnx_brk : fnx body xs (.brk, e) m = .ok (.next, e) m := rfl
@[simp] theorem fnx_ret : fnx body xs (.ret d, e) m = .ok (.ret d, e) m := rfl
theorem forL_cons : forL body (x :: xs) e m = (body x e m).bind (fnx body xs) := rfl
theorem forL_nil : forL body [] e m = .ok (.next, e) m := rfl
end
theorem ix_lm1 {α : Type} {e : α → PyData} {xs : List α} {z : α} (h : xs ≠ []) : ixD (.list (xs.map e)) (.int (-1)) = some (e (xs.getLast?.getD z)) := by
  have hne : xs.map e ≠ [] := fun h2 => h (List.map_eq_nil_iff.mp h2)
  show L2.atI (xs.map e) (-1) = _
  rw [atI_m1 hne, List.getLast?_map]
  cases hg : xs.getLast? with
  | none => rw [List.getLast?_eq_none_iff] at hg; exact absurd hg h
  | some v => rfl
theorem inD_2 {x a b : Nat} : cmpD .isin (.int x) (.tuple [.int a, .int b]) = some (decide (a = x) || decide (b = x)) := by
  show inD (nD x) [nD a, nD b] = _
  have h : (plainD (nD x) && plainD (.list [nD a, nD b])) = true := by
    have h1 : plainD (nD x) = true := (Pn_int (k := 0)).plain (by omega)
    have h2 : plainD (.list [nD a, nD b]) = true := (show Pn 1 (.list [nD a, nD b]) by simp).plain (by omega)
    rw [h1, h2]; rfl
  rw [inD, if_pos h]
  simp
theorem sign_of_eq {F n : Nat} {k : Bool} {m : Mu} : callN GT F (n + 1) 44 [.d (.bool k)] m = .ok (.int (if k = true then 1 else -1)) m := by
  rw [callN_eq (fn := f_sign_of) rfl rfl]
  simp [f_sign_of, b_sign_of, startS, slOf, endF, sameM]
def placesN (p : Rule) : List Nat := (List.range p.1.length).filter fun k => !decide (p.1.getD k 0 = p.2.getD k 0)
def numbersN (p : Rule) : List Nat := sortN ((placesN p).map fun k => p.1.getD k 0)
def someN (p : Rule) (x : Nat) : List Nat := (placesN p).filter fun k => decide (p.1.getD k 0 = x) || decide (p.2.getD k 0 = x)
def upB (k : Bool) : Int := if k = true then 1 else -1
def two (p : Rule) (x : Nat) : List Int := [upB (decide (p.1.getD ((someN p x).head?.getD 0) 0 = x)), upB (decide (p.2.getD ((someN p x).getLast?.getD 0) 0 = x))]
def sgnP (p : Rule) : List Int := [upB (decide (p.1.getD ((placesN p).head?.getD 0) 0 < p.2.getD ((placesN p).head?.getD 0) 0)), upB (decide (p.1.getD ((placesN p).getLast?.getD 0) 0 < p.2.getD ((placesN p).getLast?.getD 0) 0))] ++ two p ((numbersN p).head?.getD 0) ++ two p ((numbersN p).getLast?.getD 0)
theorem head_mem {l : List Nat} (h : l ≠ []) : l.head?.getD 0 ∈ l := by
  cases l with
  | nil => exact absurd rfl h
  | cons a l => simp
theorem last_mem {l : List Nat} (h : l ≠ []) : l.getLast?.getD 0 ∈ l := by
  rw [List.getLast?_eq_some_getLast h]; exact List.getLast_mem h
theorem two_len (p : Rule) : ∀ l : List Nat, (l.flatMap (two p)).length = 2 * l.length
  | [] => rfl
  | x :: l => by rw [List.flatMap_cons, List.length_append, two_len p l]; simp [two]; omega
theorem signs_in_eq {F n : Nat} {p : Rule} {m : Mu} (hl : p.2.length = p.1.length) (h4 : p.1.length ≤ 4) (hp : placesN p ≠ []) (hs1 : someN p ((numbersN p).head?.getD 0) ≠ []) (hs2 : someN p ((numbersN p).getLast?.getD 0) ≠ []) : callN GT F (n + 2) 45 [.d (uD p)] m = .ok (.tuple ((sgnP p).map iD)) m := by
  have hbig : 1000 ≤ big := by decide
  have hpl : ∀ k ∈ placesN p, k < p.1.length := fun k hk => List.mem_range.mp (List.mem_filter.mp hk).1
  have hpl2 : ∀ k ∈ placesN p, k < p.2.length := fun k hk => by rw [hl]; exact hpl k hk
  have hpn : (placesN p).length ≤ 4 := by
    have := List.length_filter_le (fun k => !decide (p.1.getD k 0 = p.2.getD k 0)) (List.range p.1.length)
    rw [List.length_range] at this
    unfold placesN; omega
  have hnn : numbersN p ≠ [] := fun h => by
    have h1 := length_sortN ((placesN p).map fun k => p.1.getD k 0)
    have h2 : (sortN ((placesN p).map fun k => p.1.getD k 0)).length = 0 := by
      have : sortN ((placesN p).map fun k => p.1.getD k 0) = [] := h
      rw [this]; rfl
    rw [h2, List.length_map] at h1
    exact hp (List.length_eq_zero_iff.mp h1.symm)
  have hsm : ∀ x, ∀ k ∈ someN p x, k ∈ placesN p := fun x k hk => (List.mem_filter.mp hk).1
  refine W.eq (W_call f_signs_in rfl rfl ?_)
  simp [f_signs_in, b_signs_in, startS, slOf]
  rw [ev_comp1 (List.range p.1.length) nD (fun k => !decide (p.1.getD k 0 = p.2.getD k 0)) id nD .c (r1 (fl := .c) p.1.length (by simp) (by omega)) (by simp; omega)]
  · have e1 : ((List.range p.1.length).filter fun k => !decide (p.1.getD k 0 = p.2.getD k 0)).map id = placesN p := by rw [List.map_id]; rfl
    rw [e1]
    simp
    rw [ev_comp0 (placesN p) nD (fun k => p.1.getD k 0) nD .b (by simp [joinF]) (by omega)]
    · generalize hL : (placesN p).map (fun k => p.1.getD k 0) = L
      have hLl : L.length ≤ big := by rw [← hL, List.length_map]; omega
      have e2 : sortN L = numbersN p := by rw [← hL]; rfl
      simp [b1_sorted (d := .list (L.map nD)) (l := L) rfl hLl]
      rw [e2]
      have hx := hpl _ (head_mem hp)
      have hy := hpl _ (last_mem hp)
      rw [ev_comp0 [(placesN p).head?.getD 0, (placesN p).getLast?.getD 0] nD (fun k => upB (decide (p.1.getD k 0 < p.2.getD k 0))) iD .c (by simp [ix_hd (z := 0) hp, ix_lm1 (z := 0) hp, joinF]) (by simp; omega)]
      · generalize hA : ([(placesN p).head?.getD 0, (placesN p).getLast?.getD 0].map fun k => upB (decide (p.1.getD k 0 < p.2.getD k 0))) = A
        have hAl : A.length = 2 := by rw [← hA]; rfl
        simp [-List.map_append, -List.getD_eq_getElem?_getD]
        refine W_for (fl := .c) (m' := m) [(numbersN p).head?.getD 0, (numbersN p).getLast?.getD 0] nD (fun pre env m' => m = m' ∧ ∃ (a b : Option Sl), env = [some (.v (uD p)), some (.o ((placesN p).map nD)), some (.o ((numbersN p).map nD)), some (.o ((A ++ pre.flatMap (two p)).map iD)), a, some (.v (rD p.1)), some (.v (rD p.2)), b, none]) ?_ ?_ ?_ ?_
        · simp [ix_hd (z := 0) hnn, ix_lm1 (z := 0) hnn, joinF]
        · exact ⟨rfl, none, none, by simp⟩
        · rintro pre v post env _ K e ⟨rfl, a, b, rfl⟩ hK _ _
          have hv : someN p v ≠ [] := by
            have : v ∈ [(numbersN p).head?.getD 0, (numbersN p).getLast?.getD 0] := by rw [e]; simp
            rcases List.mem_cons.mp this with h | h
            · rw [h]; exact hs1
            · have : v = (numbersN p).getLast?.getD 0 := by simpa using h
              rw [this]; exact hs2
          have hpre : pre.length ≤ 2 := by have := congrArg List.length e; simp at this; omega
          have hh1 := hpl _ (hsm v _ (head_mem hv))
          have hh2 := hpl2 _ (hsm v _ (last_mem hv))
          simp [-List.map_append, -List.getD_eq_getElem?_getD]
          rw [ev_comp1 (placesN p) nD (fun k => decide (p.1.getD k 0 = v) || decide (p.2.getD k 0 = v)) id nD .b (by simp [joinF]) (by omega)]
          · have e3 : ((placesN p).filter fun k => decide (p.1.getD k 0 = v) || decide (p.2.getD k 0 = v)).map id = someN p v := by rw [List.map_id]; rfl
            rw [e3]
            have hsz : ((A ++ pre.flatMap (two p)).map iD).length + 2 ≤ big := by
              rw [List.length_map, List.length_append, hAl, two_len]; omega
            simp [-List.map_append, -List.getD_eq_getElem?_getD, ix_hd (z := 0) hv, ix_lm1 (z := 0) hv, ix_r hh1, ix_r hh2, sign_of_eq]
            rw [bin_add_l (by simpa using hsz)]
            have e4 : (A ++ pre.flatMap (two p)).map iD ++ [PyData.int (if p.1.getD ((someN p v).head?.getD 0) 0 = v then 1 else -1), PyData.int (if p.2.getD ((someN p v).getLast?.getD 0) 0 = v then 1 else -1)] = (A ++ (pre ++ [v]).flatMap (two p)).map iD := by
              simp [two, upB]
            rw [e4]
            simp only [Out.of_some, W_ok, setV_fl, setS_succ, setS_zero, Option.map_some, nx_next, exs_nil]
            exact hK _ _ ⟨rfl, _, _, rfl⟩
          · intro k hk
            simp [-List.getD_eq_getElem?_getD, ix_r (hpl k hk), ix_r (hpl2 k hk), inD_2]
        · rintro env _ ⟨rfl, a, b, rfl⟩
          simp [← hA, sgnP]
      · intro k hk
        have hk1 : k < p.1.length := by
          rcases List.mem_cons.mp hk with rfl | hk
          · exact hx
          · have : k = (placesN p).getLast?.getD 0 := by simpa using hk
            rw [this]; exact hy
        have hk2 : k < p.2.length := by omega
        simp [-List.getD_eq_getElem?_getD, ix_r hk1, ix_r hk2, sign_of_eq, upB]
    · intro k hk
      simp [ix_r (hpl k hk)]
  · intro k hk
    have hk : k < p.1.length := List.mem_range.mp hk
    have hk2 : k < p.2.length := by omega
    simp [ix_r hk, ix_r hk2]
end Tw
set_option Elab.async false
set_option linter.all false
set_option maxRecDepth 100000
set_option maxHeartbeats 4000000
/-! Signs, corner sums. -/
namespace Tw
open PySem
def sgnCheck (p : Rule) : Bool := decide (placesN p ≠ []) && (decide (someN p ((numbersN p).head?.getD 0) ≠ []) && (decide (someN p ((numbersN p).getLast?.getD 0) ≠ []) && decide (sgnP p = sgn p)))
theorem sgn_all : rules4.all sgnCheck = true := by decide +kernel
theorem IsRule.sgnP {p : Rule} (h : IsRule p) : placesN p ≠ [] ∧ someN p ((numbersN p).head?.getD 0) ≠ [] ∧ someN p ((numbersN p).getLast?.getD 0) ≠ [] ∧ sgnP p = sgn p := by
  have := List.all_eq_true.mp sgn_all p (mem_rules4.mpr h)
  simp only [sgnCheck, Bool.and_eq_true, decide_eq_true_eq] at this
  exact ⟨this.1, this.2.1, this.2.2.1, this.2.2.2⟩
theorem signs_in_c {F n : Nat} {p : Rule} {m : Mu} (h : IsRule p) : callN GT F (n + 2) 45 [.d (uD p)] m = .ok (.tuple ((sgn p).map iD)) m := by
  obtain ⟨h1, h2, h3, h4⟩ := h.sgnP
  rw [signs_in_eq h.len h.hi h1 h2 h3, h4]
theorem IsRule.l64 {p : Rule} (h : IsRule p) : p.1.length < 64 ∧ p.2.length < 64 := by have := h.hi; have := h.len; omega
theorem need_rule_eq {F n : Nat} {p : Rule} {m : Mu} (h : IsRule p) : callN GT F (n + 4) 43 [.d (uD p)] m = .ok .none m := by
  refine W.eq (W_call f_need_rule rfl rfl ?_)
  simp [f_need_rule, b_need_rule, startS, slOf, is_rule_eq h.l64.1 h.l64.2, h]
theorem signs_eq {F n : Nat} {p : Rule} {m : Mu} (h : IsRule p) : callN GT F (n + 5) 46 [.d (uD p)] m = .ok (.tuple ((sgn p).map iD)) m := by
  refine W.eq (W_call f_signs rfl rfl ?_)
  simp [f_signs, b_signs, startS, slOf, need_rule_eq h, signs_in_c h]
/-! ### corner sums -/
def cnt (r : List Nat) (pl n q : Nat) : Nat := ((List.range' pl (n - pl)).filter fun k => decide (q ≤ r.getD k 0)).length
def csLine (p : Rule) (pl : Nat) : List Int := (List.range' 1 (mxN p.1)).map fun q => (cnt p.2 pl p.1.length q : Int) - cnt p.1 pl p.1.length q
def cs (p : Rule) : List (List Int) := (List.range' 1 (p.1.length - 1)).map (csLine p)
abbrev tIs (l : List Int) : PyData := .tuple (l.map iD)
theorem cnt_ev {C : Calls} {env : Ev} {m : Mu} {r : List Nat} {i j a b c : Nat} {pl n q : Nat} (hr : getS env a = some (.v (rD r))) (hj : getS env j = some (.v (.int pl))) (hb : getS env b = some (.v (.int n))) (hc : getS env c = some (.v (.int q))) (hi : i < env.length) (hai : a ≠ i) (hci : c ≠ i) (hn : n ≤ r.length) (hn2 : n ≤ 1000) (hpl : pl ≤ 1000) :
    ev C (.b1 .len (.comp1 (.var i) (.n i) (.range2 (.var j) (.var b)) (.cmp .ge (.ix (.var a) (.var i)) (.var c)) [i])) env m = .ok (.int (cnt r pl n q), .c) m := by
  have hbig : 1000000 ≤ big := by decide
  have g1 : ∀ (env : Ev) (s : Option Sl) (a : Nat), a ≠ i → getS (env.set i s) a = getS env a := fun env s a h => by
    unfold getS; rw [List.getElem?_set_ne (Ne.symm h)]
  have g2 : ∀ (env : Ev) (s : Sl), i < env.length → getS (env.set i (some s)) i = some s := fun env s h => by
    unfold getS; rw [List.getElem?_set_self h]
  rw [ev_b1, ev_comp1 (List.range' pl (n - pl)) nD (fun k => decide (q ≤ r.getD k 0)) id nD .c (r2 (fl := .c) (fl' := .c) pl n (by simp [hj]) (by simp [hb]) (by omega) (by omega)) (by simp; omega)]
  · simp [cnt]
  · intro k hk
    have hk2 := (List.mem_range'_1.mp hk).2
    have hk3 := (List.mem_range'_1.mp hk).1
    have hkr : k < r.length := by omega
    have e1 : ∀ s, getS (setS (wipeS env [i]) i s) a = some (.v (rD r)) := fun s => by
      simp only [setS, wipeS_cons, wipeS_nil]; rw [g1 _ _ _ hai, g1 _ _ _ hai, hr]
    have e2 : ∀ s, getS (setS (wipeS env [i]) i s) c = some (.v (.int q)) := fun s => by
      simp only [setS, wipeS_cons, wipeS_nil]; rw [g1 _ _ _ hci, g1 _ _ _ hci, hc]
    have e3 : ∀ s, getS (setS (wipeS env [i]) i s) i = some s := fun s => by
      simp only [setS, wipeS_cons, wipeS_nil]; rw [g2 _ _ (by simpa using hi)]
    simp only [bindG_n, cs1_some, ev_cmp, ev_ix, ev_var, e1, e2, e3, Out.bind_ok, ix_r hkr, Option.map_some, Out.of_some, cmp_ge, cs1b_b]
    have : ((q : Int) ≤ ((r.getD k 0 : Nat) : Int)) ↔ q ≤ r.getD k 0 := by omega
    by_cases h : q ≤ r.getD k 0 <;> simp [-List.getD_eq_getElem?_getD, this, h]
theorem corner_sums_in_eq {F n : Nat} {p : Rule} {m : Mu} (h : IsRule p) : callN GT F (n + 1) 50 [.d (uD p)] m = .ok (.tuple ((cs p).map tIs)) m := by
  have hbig : 1000000 ≤ big := by decide
  have h4 := h.hi
  have hmx := h.signs.2.2.1
  have hl := h.len
  refine W.eq (W_call f_corner_sums_in rfl rfl ?_)
  simp [f_corner_sums_in, b_corner_sums_in, startS, slOf]
  refine W_for (fl := .c) (m' := m) (List.range' 1 (p.1.length - 1)) nD (fun pre env m' => m = m' ∧ ∃ (a b c d : Option Sl), env = [some (.v (uD p)), a, some (.v (rD p.1)), some (.v (rD p.2)), some (.v (.int p.1.length)), some (.o ((pre.map (csLine p)).map tIs)), b, c, d, none]) ?_ ?_ ?_ ?_
  · exact r2 (fl := .c) (fl' := .c) 1 p.1.length (by simp) (by simp) (by omega) (by omega)
  · exact ⟨rfl, _, _, _, _, rfl⟩
  · rintro pre pl post env _ K e ⟨rfl, a, b, c, d, rfl⟩ hK _ _
    have hpl : pl ∈ List.range' 1 (p.1.length - 1) := by rw [e]; simp
    have hpl := List.mem_range'_1.mp hpl
    have hpre : pre.length ≤ 4 := by have := congrArg List.length e; simp at this; omega
    simp [-List.map_append, -List.map_map]
    refine W_for (fl := .c) (m' := m) (List.range' 1 (mxN p.1)) nD (fun pre2 env m' => m = m' ∧ ∃ (c d : Option Sl), env = [some (.v (uD p)), some (.v (nD pl)), some (.v (rD p.1)), some (.v (rD p.2)), some (.v (.int p.1.length)), some (.o ((pre.map (csLine p)).map tIs)), some (.o ((pre2.map fun q => (cnt p.2 pl p.1.length q : Int) - cnt p.1 pl p.1.length q).map iD)), c, d, none]) ?_ ?_ ?_ ?_
    · have := r2 (C := callN GT F n) (env := [some (.v (uD p)), some (.v (nD pl)), some (.v (rD p.1)), some (.v (rD p.2)), some (.v (.int p.1.length)), some (.o ((pre.map (csLine p)).map tIs)), some (.o []), c, d, none]) (m := m) (a := .lit (.int 1)) (b := .bin .add (.b1 .max (.var 2)) (.lit (.int 1))) (fl := .c) (fl' := .c) 1 (mxN p.1 + 1) (by simp) (by simp [b1_max (d := rD p.1) rfl h.ne1]) (by omega) (by omega)
      simpa [-List.map_append, -List.map_map] using this
    · exact ⟨rfl, _, _, rfl⟩
    · rintro pre2 q post2 env _ K2 e2 ⟨rfl, c, d, rfl⟩ hK2 _ _
      have hpre2 : pre2.length ≤ 100 := by have := congrArg List.length e2; simp at this; omega
      have hsz : ((pre2.map fun q => (cnt p.2 pl p.1.length q : Int) - cnt p.1 pl p.1.length q).map iD).length ≤ big := by simp only [List.length_map]; omega
      simp only [bindG_n, setS_succ, setS_zero, exs_cons, ex_set]
      rw [cnt_ev (r := p.2) (pl := pl) (n := p.1.length) (q := q) (by simp) (by simp) (by simp) (by simp) (by simp) (by omega) (by omega) (by omega) (by omega) (by omega)]
      simp only [Out.bind_ok, setV_c, Option.map_some, Out.of_some, nx_next, setS_succ, setS_zero, exs_cons, ex_append, getS_succ, getS_zero, ev_bin, ev_var]
      rw [cnt_ev (r := p.1) (pl := pl) (n := p.1.length) (q := q) (by simp) (by simp) (by simp) (by simp) (by simp) (by omega) (by omega) (by omega) (by omega) (by omega)]
      simp only [Out.bind_ok, bin_sub_i, Out.of_some, keepD_c, sz, hsz, decide_true, if_true, setS_succ, setS_zero, nx_next, exs_nil, W_ok]
      exact hK2 _ _ ⟨rfl, _, _, by simp; exact ⟨rfl, rfl⟩⟩
    · rintro env _ ⟨rfl, c, d, rfl⟩
      have e3 : (List.range' 1 (mxN p.1)).map (fun q => (cnt p.2 pl p.1.length q : Int) - cnt p.1 pl p.1.length q) = csLine p pl := rfl
      rw [e3]
      have hsz : ((pre.map (csLine p)).map tIs).length ≤ big := by simp only [List.length_map]; omega
      simp only [nx_next, exs_cons, ex_append, getS_succ, getS_zero, ev_b1, ev_var, Out.bind_ok, b1_tuple_l, Out.of_some, keepD_c, sz, hsz, decide_true, if_true, setS_succ, setS_zero, nx_next, exs_nil, W_ok]
      exact hK _ _ ⟨rfl, _, _, _, _, by simp; exact ⟨rfl, rfl, rfl, rfl⟩⟩
  · rintro env _ ⟨rfl, a, b, c, d, rfl⟩
    simp [cs]
theorem corner_sums_eq {F n : Nat} {p : Rule} {m : Mu} (h : IsRule p) : callN GT F (n + 5) 51 [.d (uD p)] m = .ok (.tuple ((cs p).map tIs)) m := by
  refine W.eq (W_call f_corner_sums rfl rfl ?_)
  simp [f_corner_sums, b_corner_sums, startS, slOf, need_rule_eq h, corner_sums_in_eq h]
end Tw
set_option Elab.async false
set_option linter.all false
set_option maxRecDepth 100000
set_option maxHeartbeats 4000000
/-! Ways, growth. -/
namespace Tw
open PySem
@[simp] theorem eqD_ul0 {l : List Rule} : eqD (.list (l.map uD)) (.list []) = some (decide (l = [])) := by
  rw [eqD_nil (k := 2) (by intro x hx; obtain ⟨r, _, rfl⟩ := List.mem_map.mp hx; exact Pn_uD) (by omega)]
  cases l <;> simp
@[simp] theorem eqD_bD0 {l : List Rule} : eqD (.tuple (l.map uD)) (.tuple []) = some (decide (l = [])) := by
  rw [eqD_Pn (k := 3) (by exact Pn_bD) (by simp) (by omega)]
  cases l <;> simp
def wordsL : List Str := ["first", "last", "least first", "least last", "greatest first", "greatest last"]
def wordS (k : Nat) : Str := wordsL.getD k ""
abbrev wD (q : Nat × Int) : PyData := .tuple [.str (wordS q.1), .int q.2]
theorem Pn_word : ∀ k : Nat, Pn 0 (.str (wordS k))
  | 0 => ⟨rfl, by decide +kernel, Nat.le_refl _⟩
  | 1 => ⟨rfl, by decide +kernel, Nat.le_refl _⟩
  | 2 => ⟨rfl, by decide +kernel, Nat.le_refl _⟩
  | 3 => ⟨rfl, by decide +kernel, Nat.le_refl _⟩
  | 4 => ⟨rfl, by decide +kernel, Nat.le_refl _⟩
  | 5 => ⟨rfl, by decide +kernel, Nat.le_refl _⟩
  | n + 6 => ⟨rfl, by show PyData.canLay0 (.str "") = true; decide +kernel, Nat.le_refl _⟩
theorem Pn_wD {k : Nat} {q : Nat × Int} : Pn (k + 1) (wD q) := by
  rw [Pn_tuple]; intro x hx
  rcases List.mem_cons.mp hx with rfl | hx
  · exact Pn_mono (Pn_word _) (Nat.zero_le _)
  · have : x = .int q.2 := by simpa using hx
    rw [this]; exact Pn_int
@[simp] theorem eqD_ways0 {l : List (Nat × Int)} : eqD (.tuple (l.map wD)) (.tuple []) = some (decide (l = [])) := by
  rw [eqD_Pn (k := 2) (by rw [Pn_tuple]; intro x hx; obtain ⟨q, _, rfl⟩ := List.mem_map.mp hx; exact Pn_wD) (by simp) (by omega)]
  cases l <;> simp
/-- does a way fit all rules -/
def fitW (b : List Rule) (k : Nat) (s : Int) : Bool := b.all fun p => decide ((sgn p).getD k 0 = s)
def wk (b : List Rule) (k : Nat) : List (Nat × Int) := (([-1, 1] : List Int).filter (fitW b k)).map fun s => (k, s)
def waysL (b : List Rule) : List (Nat × Int) := (List.range 6).flatMap (wk b)
theorem sgn_len (p : Rule) : (sgn p).length = 6 := rfl
theorem ix_sgn {p : Rule} {k : Nat} (h : k < 6) : ixD (tIs (sgn p)) (.int k) = some (.int ((sgn p).getD k 0)) := by
  rw [ix_m (by rw [sgn_len]; exact h)]
  have : k < (sgn p).length := by rw [sgn_len]; exact h
  simp [List.getD, this]
theorem ways_len (b : List Rule) : ∀ l : List Nat, (l.flatMap (wk b)).length ≤ 2 * l.length
  | [] => by simp
  | x :: l => by
    have := ways_len b l
    have h2 : (wk b x).length ≤ 2 := by
      unfold wk; rw [List.length_map]; exact List.length_filter_le _ _
    rw [List.flatMap_cons, List.length_append, List.length_cons]; omega
theorem fit_eq {b : List Rule} {k : Nat} {s : Int} : decide (b.filter (fun p => !decide ((sgn p).getD k 0 = s)) = []) = fitW b k s := by
  rw [Bool.eq_iff_iff, decide_eq_true_eq, List.filter_eq_nil_iff, fitW, List.all_eq_true]
  simp
theorem enum_words : ([] : List PyData) ++ (enumD 0 (wordsL.map PyData.str)).map PyData.tuple = (List.range 6).map fun i => .tuple [nD i, .str (wordS i)] := rfl
theorem ways_in_eq {F n : Nat} {b : List Rule} {m : Mu} (hb : ∀ p ∈ b, IsRule p) (hl : b.length ≤ 8) : callN GT F (n + 3) 47 [.d (bD b)] m = .ok (.tuple ((waysL b).map wD)) m := by
  have hbig : 1000000 ≤ big := by decide
  refine W.eq (W_call f_ways_in rfl rfl ?_)
  simp [f_ways_in, b_ways_in, startS, slOf]
  refine W_for (fl := .c) (m' := m) (List.range 6) (fun i => .tuple [nD i, .str (wordS i)]) (fun pre env m' => m = m' ∧ ∃ (x1 x2 x3 : Option Sl), env = [some (.v (bD b)), some (.o ((pre.flatMap (wk b)).map wD)), x1, x2, x3, none]) ?_ ?_ ?_ ?_
  · rw [← enum_words]; simp [joinF, wordsL]
  · exact ⟨rfl, _, _, _, rfl⟩
  · rintro pre k post env _ K e ⟨rfl, x1, x2, x3, rfl⟩ hK _ _
    obtain ⟨e1, hk⟩ := range_pos e
    have h1 := ways_len b pre
    simp [-List.map_append]
    refine W_for (fl := .c) (m' := m) ([-1, 1] : List Int) iD (fun pre2 env m' => m = m' ∧ ∃ (x3 : Option Sl), env = [some (.v (bD b)), some (.o ((pre.flatMap (wk b) ++ (pre2.filter (fitW b k)).map fun s => (k, s)).map wD)), some (.v (nD k)), some (.v (.str (wordS k))), x3, none]) ?_ ?_ ?_ ?_
    · simp [joinF]
    · exact ⟨rfl, _, by simp; rfl⟩
    · rintro pre2 s post2 env _ K2 e2 ⟨rfl, x3, rfl⟩ hK2 _ _
      have hpre2 : pre2.length ≤ 2 := by have := congrArg List.length e2; simp at this; omega
      simp [-List.map_append]
      rw [ev_comp1 b uD (fun p => !decide ((sgn p).getD k 0 = s)) id uD .c (by simp [joinF]) (by omega)]
      · rw [List.map_id]
        have hsz : ((pre.flatMap (wk b) ++ (pre2.filter (fitW b k)).map fun s => (k, s)).map wD).length ≤ big := by
          have := List.length_filter_le (fitW b k) pre2
          simp only [List.length_map, List.length_append]; omega
        have hsz2 : sz ((pre.map fun a => (wk b a).length).sum + (pre2.filter (fitW b k)).length) = true := by
          simp at hsz; simpa [sz] using hsz
        simp only [W_ok, eqD_ul0, fit_eq, Option.map_some, Out.of_some, bb_b, hsz2, if_true, Out.bind_ok, nx_next, exs_nil]
        by_cases hf : fitW b k s = true
        · simp only [hf, if_true, W_ok, nx_next, exs_nil]
          refine hK2 _ _ ⟨rfl, ?_⟩
          simp [List.filter_append, hf]
        · simp only [hf, Bool.false_eq_true, if_false, W_ok, nx_next, exs_nil]
          refine hK2 _ _ ⟨rfl, ?_⟩
          simp [List.filter_append, hf]
      · intro p hp
        simp only [bindG_n, wipeS_cons, wipeS_nil, List.set_cons_succ, List.set_cons_zero, setS_succ, setS_zero, cs1_some, ev_cmp, ev_ix, ev_call, evA_cons, isCell_var, getS_succ, getS_zero, ev_var, Out.bind_ok, keepD_c, evA_nil, signs_in_c (hb p hp), ix_sgn hk, Option.map_some, Out.of_some, cmp_ne, eqD_int, cs1b_b]
        by_cases h : (sgn p).getD k 0 = s <;> simp [-List.getD_eq_getElem?_getD, h]
    · rintro env _ ⟨rfl, x3, rfl⟩
      simp
      refine hK _ _ ⟨rfl, ?_⟩
      rw [List.flatMap_append]
      simp [wk]
  · rintro env _ ⟨rfl, x1, x2, x3, rfl⟩
    simp [waysL]
theorem law_words_eq {F n : Nat} {m : Mu} : callN GT F (n + 1) 53 [] m = .ok (.list (wordsL.map PyData.str)) m := by
  rw [callN_eq (fn := f_law_words) rfl rfl]
  simp [f_law_words, b_law_words, startS, endF, sameM, wordsL]
theorem law_words_ix {F n k : Nat} {m : Mu} (hk : k < 6) : ixD (.list (wordsL.map PyData.str)) (.int k) = some (.str (wordS k)) := by
  have : k < wordsL.length := hk
  rw [ix_ml this]
  simp [wordS, List.getD, this]
theorem law_ways_eq {F n : Nat} {b : List Rule} {m : Mu} (hb : ∀ p ∈ b, IsRule p) (hl : b.length ≤ 8) : callN GT F (n + 2) 54 [.d (bD b)] m = .ok (.tuple ((waysL b).map wD)) m := by
  have hbig : 1000000 ≤ big := by decide
  refine W.eq (W_call f_law_ways rfl rfl ?_)
  simp [f_law_ways, b_law_ways, startS, slOf]
  refine W_for (fl := .c) (m' := m) (List.range 6) nD (fun pre env m' => m = m' ∧ ∃ (x1 x2 : Option Sl), env = [some (.v (bD b)), some (.o ((pre.flatMap (wk b)).map wD)), x1, x2, none]) ?_ ?_ ?_ ?_
  · exact r1 (fl := .c) 6 (by simp) (by omega)
  · exact ⟨rfl, _, _, rfl⟩
  · rintro pre k post env _ K e ⟨rfl, x1, x2, rfl⟩ hK _ _
    obtain ⟨e1, hk⟩ := range_pos e
    have h1 := ways_len b pre
    have hw := law_words_ix (F := F) (n := n) (m := m) hk
    simp [-List.map_append]
    refine W_for (fl := .c) (m' := m) ([-1, 1] : List Int) iD (fun pre2 env m' => m = m' ∧ ∃ (x3 : Option Sl), env = [some (.v (bD b)), some (.o ((pre.flatMap (wk b) ++ (pre2.filter (fitW b k)).map fun s => (k, s)).map wD)), some (.v (nD k)), x3, none]) ?_ ?_ ?_ ?_
    · simp [joinF]
    · exact ⟨rfl, _, by simp; rfl⟩
    · rintro pre2 s post2 env _ K2 e2 ⟨rfl, x3, rfl⟩ hK2 _ _
      have hpre2 : pre2.length ≤ 2 := by have := congrArg List.length e2; simp at this; omega
      simp [-List.map_append, law_words_eq, hw]
      rw [ev_comp1 b uD (fun p => !decide ((sgn p).getD k 0 = s)) id uD .c (by simp [joinF]) (by omega)]
      · rw [List.map_id]
        have hsz : ((pre.flatMap (wk b) ++ (pre2.filter (fitW b k)).map fun s => (k, s)).map wD).length ≤ big := by
          have := List.length_filter_le (fitW b k) pre2
          simp only [List.length_map, List.length_append]; omega
        have hsz2 : sz ((pre.map fun a => (wk b a).length).sum + (pre2.filter (fitW b k)).length) = true := by
          simp at hsz; simpa [sz] using hsz
        simp only [W_ok, eqD_ul0, fit_eq, Option.map_some, Out.of_some, bb_b, hsz2, if_true, Out.bind_ok, nx_next, exs_nil]
        by_cases hf : fitW b k s = true
        · simp only [hf, if_true, W_ok, nx_next, exs_nil]
          refine hK2 _ _ ⟨rfl, ?_⟩
          simp [List.filter_append, hf]
        · simp only [hf, Bool.false_eq_true, if_false, W_ok, nx_next, exs_nil]
          refine hK2 _ _ ⟨rfl, ?_⟩
          simp [List.filter_append, hf]
      · intro p hp
        simp only [bindG_n, wipeS_cons, wipeS_nil, List.set_cons_succ, List.set_cons_zero, setS_succ, setS_zero, cs1_some, ev_cmp, ev_ix, ev_call, evA_cons, isCell_var, getS_succ, getS_zero, ev_var, Out.bind_ok, keepD_c, evA_nil, signs_call (hb p hp), ix_sgn hk, Option.map_some, Out.of_some, cmp_ne, eqD_int, cs1b_b]
        by_cases h : (sgn p).getD k 0 = s <;> simp [-List.getD_eq_getElem?_getD, h]
    · rintro env _ ⟨rfl, x3, rfl⟩
      simp
      refine hK _ _ ⟨rfl, ?_⟩
      rw [List.flatMap_append]
      simp [wk]
  · rintro env _ ⟨rfl, x1, x2, rfl⟩
    simp [waysL]
def allC (b : List Rule) : List Int := b.flatMap fun p => (cs p).flatten
def mnI (l : List Int) : Int := match l with | [] => 0 | x :: r => r.foldl min x
def mxI (l : List Int) : Int := match l with | [] => 0 | x :: r => r.foldl max x
theorem maxL_iD : ∀ (l : List Int) (x : Int), maxL (iD x) (l.map iD) = iD (l.foldl max x)
  | [], _ => rfl
  | y :: l, x => by
    rw [List.map_cons, maxL, List.foldl_cons, ← maxL_iD l]
    congr 1
    simp only [ltD, decide_eq_true_eq]
    split
    · congr 1; omega
    · congr 1; omega
theorem minL_iD : ∀ (l : List Int) (x : Int), minL (iD x) (l.map iD) = iD (l.foldl min x)
  | [], _ => rfl
  | y :: l, x => by
    rw [List.map_cons, minL, List.foldl_cons, ← minL_iD l]
    congr 1
    simp only [ltD, decide_eq_true_eq]
    split
    · congr 1; omega
    · congr 1; omega
theorem all_uni0i (l : List Int) : (l.map iD).all (uni 0) = true := by
  rw [List.all_map]; exact List.all_eq_true.mpr fun x _ => rfl
theorem depth_iD : ∀ l : List Int, PyData.depthAll (l.map iD) = 0
  | [] => rfl
  | a :: l => by rw [List.map_cons, PyData.depthAll, depth_iD l]; rfl
theorem b1_maxI {d : PyData} {l : List Int} (hs : seqOf d = some (l.map iD)) (h : l ≠ []) : b1D .max d = some (.int (mxI l), .c) := by
  show ((seqOf d).bind fun xs => match xs with
    | [] => none
    | x :: r => if cmpAll (x :: r) && decide (PyData.depthAll (x :: r) ≤ 40) then some (maxL x r, Fl.c) else none) = _
  rw [hs]
  cases l with
  | nil => exact absurd rfl h
  | cons a l =>
    show (if cmpAll ((a :: l).map iD) && decide (PyData.depthAll ((a :: l).map iD) ≤ 40) then some (maxL (iD a) (l.map iD), Fl.c) else none) = _
    rw [if_pos (by rw [depth_iD, cmpAll, all_uni0i]; rfl), maxL_iD]; rfl
theorem b1_minI {d : PyData} {l : List Int} (hs : seqOf d = some (l.map iD)) (h : l ≠ []) : b1D .min d = some (.int (mnI l), .c) := by
  show ((seqOf d).bind fun xs => match xs with
    | [] => none
    | x :: r => if cmpAll (x :: r) && decide (PyData.depthAll (x :: r) ≤ 40) then some (minL x r, Fl.c) else none) = _
  rw [hs]
  cases l with
  | nil => exact absurd rfl h
  | cons a l =>
    show (if cmpAll ((a :: l).map iD) && decide (PyData.depthAll ((a :: l).map iD) ≤ 40) then some (minL (iD a) (l.map iD), Fl.c) else none) = _
    rw [if_pos (by rw [depth_iD, cmpAll, all_uni0i]; rfl), minL_iD]; rfl
theorem cs_all : rules4.all (fun p => decide ((cs p).flatten ≠ []) && decide ((cs p).flatten.length ≤ 100)) = true := by decide +kernel
theorem IsRule.cs {p : Rule} (h : IsRule p) : (Tw.cs p).flatten ≠ [] ∧ (Tw.cs p).flatten.length ≤ 100 := by
  have := List.all_eq_true.mp cs_all p (mem_rules4.mpr h)
  simpa using this
/-- one word for all books -/
def isSq (b : List Rule) : Bool := decide (0 ≤ mnI (allC b)) || decide (mxI (allC b) ≤ 0)
def growthS (b : List Rule) : Str := if b = [] then "none" else if waysL b = [] then "endless" else if isSq b = true then "square" else "greater"
theorem allC_ne {b : List Rule} (hb : ∀ p ∈ b, IsRule p) (h : b ≠ []) : allC b ≠ [] := by
  cases b with
  | nil => exact absurd rfl h
  | cons p b =>
    unfold allC
    rw [List.flatMap_cons]
    intro h2
    exact (hb p (by simp)).cs.1 (List.append_eq_nil_iff.mp h2).1
theorem allC_len {b : List Rule} (hb : ∀ p ∈ b, IsRule p) : (allC b).length ≤ 100 * b.length := by
  induction b with
  | nil => simp [allC]
  | cons p b ih =>
    have h1 := ih fun q hq => hb q (by simp [hq])
    have h2 := (hb p (by simp)).cs.2
    unfold allC at *
    rw [List.flatMap_cons, List.length_append, List.length_cons]; omega
theorem ite_str {c : Prop} [Decidable c] {a b : Str} : (if c then PyData.str a else PyData.str b) = PyData.str (if c then a else b) := by split <;> rfl
theorem growth_eq {F n : Nat} {b : List Rule} {m : Mu} (hb : IsBook b) (hl : b.length ≤ 8) : callN GT F (n + 5) 52 [.d (bD b)] m = .ok (.str (growthS b)) m := by
  have hbig : 1000000 ≤ big := by decide
  refine W.eq (W_call f_growth rfl rfl ?_)
  simp [f_growth, b_growth, startS, slOf, need_book_eq hb hl]
  by_cases h0 : b = []
  · simp [h0, growthS]
  · simp [h0, ways_in_eq hb.rule hl]
    by_cases hw : waysL b = []
    · simp [hw, growthS, h0]
    · simp [hw]
      refine W_for (fl := .c) (m' := m) b uD (fun pre env m' => m = m' ∧ ∃ (x1 x2 : Option Sl), env = [some (.v (bD b)), some (.o ((allC pre).map iD)), x1, x2]) ?_ ?_ ?_ ?_
      · simp [joinF]
      · exact ⟨rfl, _, _, rfl⟩
      · rintro pre p post env _ K e ⟨rfl, x1, x2, rfl⟩ hK _ _
        have hp := hb.rule p (by rw [e]; simp)
        have hpre : (allC pre).length ≤ 800 := by
          have h1 := allC_len (b := pre) fun q hq => hb.rule q (by rw [e]; simp [hq])
          have : pre.length ≤ b.length := by have := congrArg List.length e; simp at this; omega
          omega
        simp [-List.map_append]
        refine W_for (fl := .c) (m' := m) (cs p) tIs (fun pre2 env m' => m = m' ∧ ∃ (x2 : Option Sl), env = [some (.v (bD b)), some (.o ((allC pre ++ pre2.flatten).map iD)), some (.v (uD p)), x2]) ?_ ?_ ?_ ?_
        · simp [corner_sums_in_eq hp, joinF]
        · exact ⟨rfl, _, by simp; rfl⟩
        · rintro pre2 l post2 env _ K2 e2 ⟨rfl, x2, rfl⟩ hK2 _ _
          have hsz : ((allC pre ++ pre2.flatten).map iD).length + (l.map iD).length ≤ big := by
            have h1 := hp.cs.2
            rw [e2, List.flatten_append, List.length_append, List.flatten_cons, List.length_append] at h1
            simp only [List.length_map, List.length_append]; omega
          simp only [bindG_n, setS_succ, setS_zero, exs_cons, ex_set, ev_bin, ev_var, getS_succ, getS_zero, ev_b1, Out.bind_ok, b1_list_t, Out.of_some, bin_add_l hsz, setV_fl, Option.map_some, nx_next, exs_nil, W_ok]
          exact hK2 _ _ ⟨rfl, _, by simp; rfl⟩
        · rintro env _ ⟨rfl, x2, rfl⟩
          simp
          refine hK _ _ ⟨rfl, ?_⟩
          simp [allC, List.flatMap_append]
      · rintro env _ ⟨rfl, x1, x2, rfl⟩
        have hne := allC_ne hb.rule h0
        have e1 : b1D .min (.list ((allC b).map iD)) = some (.int (mnI (allC b)), .c) := b1_minI rfl hne
        have e2 : b1D .max (.list ((allC b).map iD)) = some (.int (mxI (allC b)), .c) := b1_maxI rfl hne
        have e3 : growthS b = if isSq b = true then ("square" : Str) else ("greater" : Str) := by simp [growthS, h0, hw]
        rw [e3]
        simp [e1, e2, isSq]
        by_cases h1 : 0 ≤ mnI (allC b)
        · simp [h1]
        · by_cases h2 : mxI (allC b) ≤ 0 <;> simp [h1, h2]
theorem ways_eq {F n : Nat} {b : List Rule} {m : Mu} (hb : IsBook b) (hl : b.length ≤ 8) : callN GT F (n + 5) 48 [.d (bD b)] m = .ok (.tuple ((waysL b).map wD)) m := by
  refine W.eq (W_call f_ways rfl rfl ?_)
  simp [f_ways, b_ways, startS, slOf, need_book_eq hb hl, ways_in_eq hb.rule hl]
theorem ends_eq {F n : Nat} {b : List Rule} {m : Mu} (hb : IsBook b) (hl : b.length ≤ 8) : callN GT F (n + 5) 49 [.d (bD b)] m = .ok (.bool (!decide (waysL b = []))) m := by
  refine W.eq (W_call f_ends rfl rfl ?_)
  simp [f_ends, b_ends, startS, slOf, need_book_eq hb hl, ways_in_eq hb.rule hl]
end Tw
set_option Elab.async false
set_option linter.all false
set_option maxRecDepth 100000
set_option maxHeartbeats 4000000
/-! The program's steps. -/
namespace Tw
open PySem
theorem zip_nD {l a : List Nat} (h : a.length = l.length) : (zipD (l.map nD) (a.map nD)).map PyData.tuple = (List.range l.length).map fun k => .tuple [nD (l.getD k 0), nD (a.getD k 0)] := by
  refine List.ext_getElem? fun i => ?_
  have key : ∀ (xs ys : List PyData) (i : Nat), (zipD xs ys)[i]? = (match xs[i]?, ys[i]? with | some x, some y => some [x, y] | _, _ => none) := by
    intro xs
    induction xs with
    | nil => intro ys i; simp [zipD]
    | cons x xs ih =>
      intro ys i
      cases ys with
      | nil => simp [zipD]
      | cons y ys =>
        cases i with
        | zero => simp [zipD]
        | succ i => simp [zipD, ih]
  rw [List.getElem?_map, key, List.getElem?_map, List.getElem?_map, List.getElem?_map]
  by_cases hi : i < l.length
  · have hi2 : i < a.length := by omega
    simp [hi, hi2, List.getD]
  · have hi2 : ¬ i < a.length := by omega
    simp [hi, hi2]
theorem evI_zp {l a : List Nat} {C : Calls} {env : Ev} {i j : Nat} {m : Mu} (h : a.length = l.length) (hi : getS env i = some (.v (rD l))) (hj : getS env j = some (.v (rD a))) : evI C (.zip (.var i) (.var j)) env m = .ok ((List.range l.length).map fun k => .tuple [nD (l.getD k 0), nD (a.getD k 0)], .c) m := by
  rw [← zip_nD h]
  simp [hi, hj, both, joinF]
theorem steps_in_eq {F n : Nat} {b : List Rule} {r : List Nat} {m : Mu} (hp : ∀ p ∈ b, IsRule p) (hl : b.length ≤ 8) (hr : r.length ≤ 12) : callN GT F (n + 2) 7 [.d (bD b), .d (rD r)] m = .ok (.list ((stepsL b r).map rD)) m := by
  have hbig : 1000000 ≤ big := by decide
  have hN : (allSteps b r).length ≤ big := by
    have := length_allSteps hr hl fun p h => (hp p h).hi
    have h3 : 8 * 12 ^ 4 ≤ big := by decide
    omega
  refine W.eq (W_call f_steps_in rfl rfl ?_)
  simp [f_steps_in, b_steps_in, startS, slOf]
  refine W_for (fl := .c) (m' := m) b uD (fun pre env m' => m = m' ∧ ∃ (x1 x2 x3 x4 x5 x6 x7 x8 : Option Sl), env = [some (.v (bD b)), some (.v (rD r)), some (.od (kvT rD (keysOf (pre.flatMap (stepsOf r))))), x1, x2, x3, x4, x5, x6, x7, x8]) ?_ ?_ ?_ ?_
  · simp [joinF]
  · exact ⟨rfl, _, _, _, _, _, _, _, _, rfl⟩
  · rintro pre p post env _ K e ⟨rfl, x1, x2, x3, x4, x5, x6, x7, x8, rfl⟩ hK _ _
    have hpb : p ∈ b := by rw [e]; simp
    have hR := hp p hpb
    simp
    refine W_for (fl := .c) (m' := m) (spots r.length p.1.length) rD (fun pre2 env m' => m = m' ∧ ∃ (x3 x4 x5 x6 x7 x8 : Option Sl), env = [some (.v (bD b)), some (.v (rD r)), some (.od (kvT rD (keysOf (pre.flatMap (stepsOf r) ++ (pre2.filter (fitsAt p.1 r)).map fun l => put r l p.2)))), some (.v (rD p.1)), some (.v (rD p.2)), x3, x4, x5, x6, x7, x8]) ?_ ?_ ?_ ?_
    · simp [spots_c (show r.length ≤ 50 by omega) hR.hi, joinF]
    · exact ⟨rfl, _, _, _, _, _, _, by simp; exact ⟨rfl, rfl, rfl, rfl, rfl, rfl⟩⟩
    · rintro pre2 l post2 env _ K2 e2 ⟨rfl, y3, y4, y5, y6, y7, y8, rfl⟩ hK2 _ _
      have hls : l ∈ spots r.length p.1.length := by rw [e2]; simp
      obtain ⟨hl1, hl2, hl3⟩ := mem_spots.mp hls
      have hR4 := hR.hi
      have hRl := hR.len
      simp
      rw [ev_comp0 l nD (fun i => r.getD i 0) nD .c (by simp [joinF]) (le_big (by omega))]
      · have e3 : l.map (fun i => r.getD i 0) = pk r l := rfl
        have h64 : (pk r l).length < 64 := by rw [length_pk]; omega
        rw [e3]
        simp [lie_eq (Sq.l (pk r l)) h64]
        by_cases hf : lieL (pk r l) = p.1
        · simp [hf]
          refine W_for (fl := .c) (m' := m) (List.range l.length) (fun k => .tuple [nD (l.getD k 0), nD (p.2.getD k 0)]) (fun pre3 env m' => m = m' ∧ ∃ (x5 x6 : Option Sl), env = [some (.v (bD b)), some (.v (rD r)), some (.od (kvT rD (keysOf (pre.flatMap (stepsOf r) ++ (pre2.filter (fitsAt p.1 r)).map fun l => put r l p.2)))), some (.v (rD p.1)), some (.v (rD p.2)), some (.v (rD l)), some (.v (rD p.1)), some (.v (.list ((dist (pk r l)).map nD))), some (.o ((putAt r l (p.2.map fun k => (dist (pk r l)).getD k 0) pre3.length).map nD)), x5, x6]) ?_ ?_ ?_ ?_
          · exact evI_zp (by omega) (by simp) (by simp)
          · exact ⟨rfl, _, _, rfl⟩
          · rintro pre3 k post3 env _ K3 e4 ⟨rfl, z5, z6, rfl⟩ hK3 _ _
            obtain ⟨e5, hk⟩ := range_pos e4
            have hk2 : k < p.2.length := by rw [hR.len]; omega
            have hv : p.2.getD k 0 < (dist (pk r l)).length := by
              have : p.2.getD k 0 ∈ p.2 := by rw [← getD_lt hk2]; exact List.getElem_mem hk2
              have := hR.perm.mem_iff.mpr this
              rw [← hf] at this
              exact mem_lie_lt this
            have hlk : l.getD k 0 < (putAt r l (p.2.map fun k => (dist (pk r l)).getD k 0) pre3.length).length := by
              rw [length_putAt]
              have : l.getD k 0 ∈ l := by rw [← getD_lt hk]; exact List.getElem_mem hk
              exact hl3 _ this
            have hlk2 : l.getD k 0 < ((putAt r l (p.2.map fun k => (dist (pk r l)).getD k 0) pre3.length).map nD).length := by rw [List.length_map]; exact hlk
            simp only [bindG_t, bindGs_cons, bindG_n, bindGs_nil, setS_succ, setS_zero, exs_cons, ex_setIx, ev_ix, ev_var, getS_succ, getS_zero, Out.bind_ok, ix_ml hv, Option.map_some, Out.of_some, keepD_c, ownS_o, storeIx_o hlk2, nx_next, exs_nil, W_ok]
            refine hK3 _ _ ⟨rfl, ?_⟩
            have e6 : (p.2.map fun k => (dist (pk r l)).getD k 0).getD pre3.length 0 = (dist (pk r l))[p.2.getD k 0] := by
              rw [← e5, getD_lt hv]
              simp [List.getD, hk2]
            rw [List.length_append, List.length_singleton, putAt_succ, e6, ← e5, List.map_set]
            exact ⟨_, _, rfl⟩
          · rintro env _ ⟨rfl, z5, z6, rfl⟩
            rw [List.length_range]
            have e7 : putAt r l (p.2.map fun k => (dist (pk r l)).getD k 0) l.length = put r l p.2 := rfl
            rw [e7]
            have hs := doneSz hN e e2
            simp
            rw [storeIx_od keyOk_rD (by simpa [kvT] using hs), putD_T rD_inj']
            simp
            refine hK2 _ _ ⟨rfl, ?_⟩
            have e8 : fitsAt p.1 r l = true := by simp [fitsAt, hf]
            have e9 : pre.flatMap (stepsOf r) ++ ((pre2 ++ [l]).filter (fitsAt p.1 r)).map (fun l => put r l p.2) = (pre.flatMap (stepsOf r) ++ (pre2.filter (fitsAt p.1 r)).map fun l => put r l p.2) ++ [put r l p.2] := by
              simp [List.filter_append, e8]
            rw [e9, keysOf_append]
            simp
        · simp [hf]
          refine hK2 _ _ ⟨rfl, ?_⟩
          have e8 : fitsAt p.1 r l = false := by simp [fitsAt, hf]
          simp [List.filter_append, e8]
      · intro i hi
        simp [ix_r (hl3 i hi)]
    · rintro env _ ⟨rfl, y3, y4, y5, y6, y7, y8, rfl⟩
      simp
      refine hK _ _ ⟨rfl, ?_⟩
      have e10 : (pre ++ [p]).flatMap (stepsOf r) = pre.flatMap (stepsOf r) ++ ((spots r.length p.1.length).filter (fitsAt p.1 r)).map fun l => put r l p.2 := by
        rw [List.flatMap_append]; simp [stepsOf]
      rw [e10]
      simp
  · rintro env _ ⟨rfl, y1, y2, y3, y4, y5, y6, y7, y8, rfl⟩
    have e11 : b.flatMap (stepsOf r) = allSteps b r := rfl
    rw [e11]
    have hk : 0 < r.length ∨ keysOf (allSteps b r) = [] := by
      by_cases h0 : r = []
      · right; rw [h0, allSteps_nil fun p h => (hp p h).lo]; rfl
      · left; exact List.length_pos_iff.mpr h0
    have := keys_R (ks := keysOf (allSteps b r)) (k := r.length) (fun t ht => allSteps_len (mem_keysOf.mp ht)) hk (Nat.le_trans (length_keysOf _) hN)
    simp [this, stepsL]
theorem need_both_eq {F n : Nat} {b : List Rule} {r : List Nat} {m : Mu} (hb : IsBook b) (hl : b.length ≤ 8) (hr : IsRow r) (hrl : r.length ≤ 6) : callN GT F (n + 5) 8 [.d (bD b), .d (rD r)] m = .ok .none m := by
  refine W.eq (W_call f_need_both rfl rfl ?_)
  have := need_row_eq (F := F) (n := n + 1) (k := 6) (m := m) hr hrl (by omega)
  simp at this
  simp [f_need_both, b_need_both, startS, slOf, need_book_eq hb hl, this]
theorem steps_eq {F n : Nat} {b : List Rule} {r : List Nat} {m : Mu} (hb : IsBook b) (hl : b.length ≤ 8) (hr : IsRow r) (hrl : r.length ≤ 6) : callN GT F (n + 6) 9 [.d (bD b), .d (rD r)] m = .ok (.tuple ((stepsL b r).map rD)) m := by
  refine W.eq (W_call f_steps rfl rfl ?_)
  simp [f_steps, b_steps, startS, slOf, need_both_eq hb hl hr hrl, steps_in_eq hb.rule hl (show r.length ≤ 12 by omega)]
end Tw
set_option Elab.async false
set_option linter.all false
set_option maxRecDepth 100000
/-! What comes; an order of it. -/
namespace Tw
/-- what comes from r by any number of steps -/
inductive Reach (b : List Rule) (r : List Nat) : List Nat → Prop
  | refl : Reach b r r
  | step {s t : List Nat} : Reach b r s → t ∈ stepsL b s → Reach b r t
theorem Reach.trans {b : List Rule} {r s t : List Nat} (h : Reach b r s) (h' : Reach b s t) : Reach b r t := by
  induction h' with
  | refl => exact h
  | step _ h2 ih => exact ih.step h2
theorem Reach.len {b : List Rule} {r s : List Nat} (h : Reach b r s) : s.length = r.length := by
  induction h with
  | refl => rfl
  | step _ h2 ih => rw [stepsL_len h2, ih]
section
variable {α : Type} [DecidableEq α]
/-- how many of l are not in found -/
def cntN (found l : List α) : Nat := (l.filter fun t => !decide (t ∈ found)).length
theorem cntN_nil (l : List α) : cntN [] l = l.length := by simp [cntN]
theorem cntN_zero {found l : List α} : cntN found l = 0 ↔ ∀ t ∈ l, t ∈ found := by
  unfold cntN
  rw [List.length_eq_zero_iff, List.filter_eq_nil_iff]
  simp
theorem cntN_add {found l : List α} {x : α} (hn : l.Nodup) (hx : x ∉ found) : cntN found l = cntN (found ++ [x]) l + (if x ∈ l then 1 else 0) := by
  induction l with
  | nil => simp [cntN]
  | cons a l ih =>
    obtain ⟨h1, h2⟩ := List.nodup_cons.mp hn
    have ih := ih h2
    unfold cntN at *
    by_cases ha : a = x
    · subst ha
      have e1 : (if a ∈ l then 1 else 0) = 0 := if_neg h1
      rw [e1] at ih
      rw [List.filter_cons_of_pos (by simpa using hx), List.filter_cons_of_neg (by simp), List.length_cons, ih]
      simp
    · have e2 : (x ∈ a :: l) ↔ x ∈ l := by simp [Ne.symm ha]
      simp only [e2]
      by_cases hf : a ∈ found
      · rw [List.filter_cons_of_neg (by simpa using hf), List.filter_cons_of_neg (by simp [hf]), ih]
      · rw [List.filter_cons_of_pos (by simpa using hf), List.filter_cons_of_pos (by simp [hf, ha]), List.length_cons, List.length_cons, ih]; omega
/-- the state of the ordering: what is found, what waits for nothing more -/
structure Kahn (ks : List α) (succ : α → List α) (found rows : List α) : Prop where
  nf : found.Nodup
  nr : rows.Nodup
  dis : ∀ x ∈ rows, x ∉ found
  sf : ∀ x ∈ found, x ∈ ks
  sr : ∀ x ∈ rows, x ∈ ks
  iff : ∀ k ∈ ks, (k ∈ found ∨ k ∈ rows) ↔ ∀ t ∈ succ k, t ∈ found
  top : ∀ p x q, found = p ++ x :: q → ∀ t ∈ succ x, t ∈ p
def backsOf (ks : List α) (succ : α → List α) (x : α) : List α := ks.filter fun k => decide (x ∈ succ k)
theorem kahn_start {ks : List α} {succ : α → List α} (hn : ks.Nodup) {rows : List α} (hr : rows.Perm (ks.filter fun k => decide (succ k = []))) : Kahn ks succ [] rows := by
  have hm : ∀ x, x ∈ rows ↔ x ∈ ks ∧ succ x = [] := fun x => by rw [hr.mem_iff]; simp
  refine ⟨by simp, hr.nodup_iff.mpr (hn.filter _), by simp, by simp, fun x hx => ((hm x).mp hx).1, fun k hk => ?_, fun p x q e => by simp at e⟩
  rw [hm]
  constructor
  · rintro (h | ⟨_, h⟩)
    · simp at h
    · rw [h]; simp
  · intro h
    exact .inr ⟨hk, List.eq_nil_iff_forall_not_mem.mpr fun t ht => by have := h t ht; simp at this⟩
theorem kahn_step {ks : List α} {succ : α → List α} (hn : ks.Nodup) {found rows : List α} {x : α} (K : Kahn ks succ found (rows ++ [x])) : Kahn ks succ (found ++ [x]) (rows ++ (backsOf ks succ x).filter fun k => decide (∀ t ∈ succ k, t ∈ found ++ [x])) := by
  have hxr : x ∈ rows ++ [x] := by simp
  have hxf : x ∉ found := K.dis x hxr
  have hxk : x ∈ ks := K.sr x hxr
  have hxs : ∀ t ∈ succ x, t ∈ found := (K.iff x hxk).mp (.inr hxr)
  have hnr : rows.Nodup := (List.nodup_append.mp K.nr).1
  have hxn : x ∉ rows := fun h => (List.nodup_append.mp K.nr).2.2 x h x (by simp) rfl
  have hfs : ∀ k ∈ found, ∀ t ∈ succ k, t ∈ found := fun k hk => (K.iff k (K.sf k hk)).mp (.inl hk)
  have hrs : ∀ k ∈ rows, ∀ t ∈ succ k, t ∈ found := fun k hk => (K.iff k (K.sr k (by simp [hk]))).mp (.inr (by simp [hk]))
  have hnew : ∀ k, k ∈ (backsOf ks succ x).filter (fun k => decide (∀ t ∈ succ k, t ∈ found ++ [x])) ↔ k ∈ ks ∧ x ∈ succ k ∧ ∀ t ∈ succ k, t ∈ found ++ [x] := fun k => by
    unfold backsOf
    rw [List.mem_filter, List.mem_filter, decide_eq_true_eq, decide_eq_true_eq, and_assoc]
  refine ⟨?_, ?_, ?_, ?_, ?_, ?_, ?_⟩
  · rw [List.nodup_append]
    exact ⟨K.nf, by simp, fun a ha b hb e => by simp at hb; subst hb; subst e; exact hxf ha⟩
  · rw [List.nodup_append]
    exact ⟨hnr, (hn.filter _).filter _, fun a ha b hb e => by subst e; exact hxf (hrs a ha x ((hnew a).mp hb).2.1)⟩
  · intro k hk
    rcases List.mem_append.mp hk with hk | hk
    · intro h
      rcases List.mem_append.mp h with h | h
      · exact K.dis k (by simp [hk]) h
      · have : k = x := by simpa using h
        exact hxn (this ▸ hk)
    · have h1 := ((hnew k).mp hk).2.1
      intro h
      rcases List.mem_append.mp h with h | h
      · exact hxf (hfs k h x h1)
      · have : k = x := by simpa using h
        subst this
        exact hxf (hxs k h1)
  · intro k hk
    rcases List.mem_append.mp hk with hk | hk
    · exact K.sf k hk
    · have : k = x := by simpa using hk
      rw [this]; exact hxk
  · intro k hk
    rcases List.mem_append.mp hk with hk | hk
    · exact K.sr k (by simp [hk])
    · exact ((hnew k).mp hk).1
  · intro k hk
    constructor
    · rintro (h | h)
      · rcases List.mem_append.mp h with h | h
        · exact fun t ht => List.mem_append_left _ (hfs k h t ht)
        · have : k = x := by simpa using h
          rw [this]; exact fun t ht => List.mem_append_left _ (hxs t ht)
      · rcases List.mem_append.mp h with h | h
        · exact fun t ht => List.mem_append_left _ (hrs k h t ht)
        · exact ((hnew k).mp h).2.2
    · intro h
      by_cases hx : x ∈ succ k
      · exact .inr (List.mem_append_right _ ((hnew k).mpr ⟨hk, hx, h⟩))
      · have h2 : ∀ t ∈ succ k, t ∈ found := fun t ht => by
          rcases List.mem_append.mp (h t ht) with q | q
          · exact q
          · have : t = x := by simpa using q
            exact absurd (this ▸ ht) hx
        rcases (K.iff k hk).mpr h2 with q | q
        · exact .inl (List.mem_append_left _ q)
        · rcases List.mem_append.mp q with q | q
          · exact .inr (List.mem_append_left _ q)
          · exact .inl (List.mem_append_right _ q)
  · intro p y q e t ht
    rcases List.append_eq_append_iff.mp e with ⟨a, e1, e2⟩ | ⟨a, e1, e2⟩
    · cases a with
      | nil =>
        simp only [List.nil_append] at e2
        have h3 : y = x ∧ q = [] := by
          have := List.cons.inj (show y :: q = [x] from e2.symm)
          exact this
        rw [e1, List.append_nil]
        rw [h3.1] at ht
        exact hxs t ht
      | cons z zs =>
        have := congrArg List.length e2
        simp at this
    · cases a with
      | nil =>
        simp only [List.nil_append] at e2
        have h3 : y = x ∧ q = [] := List.cons.inj (show y :: q = [x] from e2)
        rw [List.append_nil] at e1
        rw [← e1]
        rw [h3.1] at ht
        exact hxs t ht
      | cons z zs =>
        have h3 := List.cons.inj (show y :: q = z :: (zs ++ [x]) from e2)
        exact K.top p y zs (by rw [e1, h3.1]) t ht
theorem nodup_sub_len {l ks : List α} (hn : l.Nodup) (hs : ∀ x ∈ l, x ∈ ks) : l.length ≤ ks.length := by
  induction l generalizing ks with
  | nil => simp
  | cons a l ih =>
    obtain ⟨h1, h2⟩ := List.nodup_cons.mp hn
    have ha : a ∈ ks := hs a (by simp)
    have := ih (ks := ks.erase a) h2 fun x hx => (List.mem_erase_of_ne (fun e : x = a => h1 (e ▸ hx))).mpr (hs x (by simp [hx]))
    rw [List.length_erase_of_mem ha] at this
    have := List.length_pos_of_mem ha
    rw [List.length_cons]; omega
theorem perm_of_len {l ks : List α} (hn : l.Nodup) (hk : ks.Nodup) (hs : ∀ x ∈ l, x ∈ ks) (hl : l.length = ks.length) : l.Perm ks := by
  refine (List.perm_ext_iff_of_nodup hn hk).mpr fun x => ⟨hs x, fun hx => ?_⟩
  by_cases h : x ∈ l
  · exact h
  · exfalso
    have := nodup_sub_len (l := x :: l) (ks := ks) (List.nodup_cons.mpr ⟨h, hn⟩) (fun y hy => by rcases List.mem_cons.mp hy with rfl | hy; exact hx; exact hs y hy)
    rw [List.length_cons] at this; omega
/-- what is left over when nothing waits for nothing: each of it leads to some of it -/
theorem kahn_left {ks : List α} {succ : α → List α} {found : List α} (K : Kahn ks succ found []) (hc : ∀ k ∈ ks, ∀ t ∈ succ k, t ∈ ks) : ∀ k ∈ ks, k ∉ found → ∃ t ∈ succ k, t ∈ ks ∧ t ∉ found := fun k hk hf => by
  by_cases h : ∀ t ∈ succ k, t ∈ found
  · rcases (K.iff k hk).mpr h with q | q
    · exact absurd q hf
    · simp at q
  · have h2 : ∃ t, t ∈ succ k ∧ t ∉ found := by
      apply Classical.byContradiction
      intro hn
      exact h fun t ht => Classical.byContradiction fun hx => hn ⟨t, ht, hx⟩
    obtain ⟨t, ht, hx⟩ := h2
    exact ⟨t, ht, hc k hk t ht, hx⟩
/-- with a weight that each step makes less nothing is left over -/
theorem kahn_all {ks : List α} {succ : α → List α} {found : List α} (K : Kahn ks succ found []) (hc : ∀ k ∈ ks, ∀ t ∈ succ k, t ∈ ks) (f : α → Nat) (hf : ∀ k ∈ ks, ∀ t ∈ succ k, f t < f k) : ∀ k ∈ ks, k ∈ found := by
  have : ∀ n k, f k = n → k ∈ ks → k ∈ found := by
    intro n
    induction n using Nat.strongRecOn with
    | ind n ih =>
      intro k e hk
      apply Classical.byContradiction
      intro hx
      obtain ⟨t, ht, htk, htx⟩ := kahn_left K hc k hk hx
      exact htx (ih (f t) (e ▸ hf k hk t ht) t rfl htk)
  exact fun k hk => this _ k rfl hk
end
end Tw
set_option Elab.async false
set_option linter.all false
set_option maxRecDepth 100000
/-! What a step does to a row, place by place. -/
namespace Tw
theorem gD {l : List Nat} {k : Nat} (h : k < l.length) : l.getD k 0 = l[k] := by simp [List.getD, h]
theorem getD_set_self {r : List Nat} {i v : Nat} (h : i < r.length) : (r.set i v).getD i 0 = v := by simp [List.getD, h]
theorem getD_set_ne {r : List Nat} {i j v : Nat} (h : i ≠ j) : (r.set i v).getD j 0 = r.getD j 0 := by simp [List.getD, List.getElem?_set_ne h]
theorem mem_getD {l : List Nat} {k : Nat} (h : k < l.length) : l.getD k 0 ∈ l := by
  have : l.getD k 0 = l[k] := by simp [List.getD, h]
  rw [this]; exact List.getElem_mem h
theorem lt_getD {l : List Nat} (hp : l.Pairwise (· < ·)) {i j : Nat} (hij : i < j) (hj : j < l.length) : l.getD i 0 < l.getD j 0 := by
  have hi : i < l.length := by omega
  have := List.pairwise_iff_getElem.mp hp i j hi hj hij
  simpa [List.getD, hi, hj] using this
theorem putAt_in {r l vs : List Nat} (hp : l.Pairwise (· < ·)) (hl : ∀ x ∈ l, x < r.length) : ∀ (n k : Nat), n ≤ l.length → k < n → (putAt r l vs n).getD (l.getD k 0) 0 = vs.getD k 0
  | 0, k, _, h => by omega
  | n + 1, k, hn, h => by
    rw [putAt_succ]
    by_cases e : k = n
    · subst e
      exact getD_set_self (by rw [length_putAt]; exact hl _ (mem_getD (by omega)))
    · have := lt_getD hp (show k < n by omega) (by omega)
      rw [getD_set_ne (by omega)]
      exact putAt_in hp hl n k (by omega) (by omega)
theorem putAt_out {r l vs : List Nat} {i : Nat} (hi : i ∉ l) : ∀ n, n ≤ l.length → (putAt r l vs n).getD i 0 = r.getD i 0
  | 0, _ => rfl
  | n + 1, hn => by
    rw [putAt_succ, getD_set_ne (fun e : l.getD n 0 = i => hi (e ▸ mem_getD (by omega))), putAt_out hi n (by omega)]
/-- a step's data -/
structure Fit (r l : List Nat) (p : Rule) : Prop where
  rule : IsRule p
  up : l.Pairwise (· < ·)
  lt : ∀ x ∈ l, x < r.length
  len : l.length = p.1.length
  lie : lieL (pk r l) = p.1
theorem fit_of {r l : List Nat} {p : Rule} (hp : IsRule p) (hl : l ∈ spots r.length p.1.length) (e : lieL (pk r l) = p.1) : Fit r l p := by
  obtain ⟨h1, h2, h3⟩ := mem_spots.mp hl
  exact ⟨hp, h2, h3, h1, e⟩
theorem getD_pk {r l : List Nat} {k : Nat} (h : k < l.length) : (pk r l).getD k 0 = r.getD (l.getD k 0) 0 := by
  have h2 : k < (pk r l).length := by rw [length_pk]; exact h
  unfold pk
  simp [List.getD, h]
/-- the value that rank k means -/
def rankV (r l : List Nat) (k : Nat) : Nat := (dist (pk r l)).getD k 0
theorem put_in {r l : List Nat} {p : Rule} (f : Fit r l p) {k : Nat} (hk : k < l.length) : (put r l p.2).getD (l.getD k 0) 0 = rankV r l (p.2.getD k 0) := by
  unfold put
  rw [putAt_in f.up f.lt l.length k (Nat.le_refl _) hk]
  have : k < p.2.length := by rw [f.rule.len, ← f.len]; exact hk
  simp [List.getD, this, rankV]
theorem put_out {r l a : List Nat} {i : Nat} (h : i ∉ l) : (put r l a).getD i 0 = r.getD i 0 := putAt_out h _ (Nat.le_refl _)
theorem rankV_mono {r l : List Nat} {i j : Nat} (hij : i < j) (hj : j < (dist (pk r l)).length) : rankV r l i < rankV r l j := lt_getD (dist_lt _) hij hj
/-- before: the value at a place is the one that its rank means -/
theorem before_in {r l : List Nat} {p : Rule} (f : Fit r l p) {k : Nat} (hk : k < l.length) : r.getD (l.getD k 0) 0 = rankV r l (p.1.getD k 0) ∧ p.1.getD k 0 < (dist (pk r l)).length := by
  have hk2 : k < (pk r l).length := by rw [length_pk]; exact hk
  have hm : (pk r l).getD k 0 ∈ pk r l := mem_getD hk2
  have e1 : p.1.getD k 0 = (dist (pk r l)).idxOf ((pk r l).getD k 0) := by
    rw [rk_eq_idx hm, ← f.lie]
    unfold lieL
    simp [List.getD, hk]
  have hlt : (dist (pk r l)).idxOf ((pk r l).getD k 0) < (dist (pk r l)).length := List.idxOf_lt_length_iff.mpr (mem_dist.mpr hm)
  refine ⟨?_, by rw [e1]; exact hlt⟩
  rw [← getD_pk hk, e1, rankV]
  rw [gD hlt, List.getElem_idxOf hlt]
theorem after_lt {r l : List Nat} {p : Rule} (f : Fit r l p) {k : Nat} (hk : k < l.length) : p.2.getD k 0 < (dist (pk r l)).length := by
  have h2 : k < p.2.length := by rw [f.rule.len, ← f.len]; exact hk
  have h3 : p.2.getD k 0 ∈ p.1 := f.rule.perm.mem_iff.mpr (mem_getD h2)
  rw [← f.lie] at h3
  exact mem_lie_lt h3
theorem rankV_mem {r l : List Nat} (hl : ∀ x ∈ l, x < r.length) {k : Nat} (hk : k < (dist (pk r l)).length) : rankV r l k ∈ r := by
  have h1 : rankV r l k ∈ pk r l := mem_dist.mp (mem_getD hk)
  obtain ⟨i, hi, e⟩ := List.mem_map.mp h1
  rw [← e]
  exact mem_getD (hl i hi)
theorem mem_put {r l : List Nat} {p : Rule} (f : Fit r l p) {x : Nat} (hx : x ∈ put r l p.2) : x ∈ r := by
  obtain ⟨i, hi, e⟩ := List.getElem_of_mem hx
  have e1 : (put r l p.2).getD i 0 = x := by rw [gD hi, e]
  rw [length_put] at hi
  by_cases hil : i ∈ l
  · obtain ⟨k, hk, ek⟩ := List.getElem_of_mem hil
    have e2 : l.getD k 0 = i := by rw [gD hk, ek]
    rw [← e2, put_in f hk] at e1
    rw [← e1]
    exact rankV_mem f.lt (after_lt f hk)
  · rw [put_out hil] at e1
    rw [← e1]; exact mem_getD hi
theorem step_fit {b : List Rule} (hb : ∀ p ∈ b, IsRule p) {r t : List Nat} (h : t ∈ stepsL b r) : ∃ p ∈ b, ∃ l, Fit r l p ∧ t = put r l p.2 := by
  obtain ⟨p, hp, l, hl, e, rfl⟩ := mem_stepsL.mp h
  exact ⟨p, hp, l, fit_of (hb p hp) hl e, rfl⟩
theorem Reach.mem {b : List Rule} (hb : ∀ p ∈ b, IsRule p) {r s : List Nat} (h : Reach b r s) : ∀ x ∈ s, x ∈ r := by
  induction h with
  | refl => exact fun x hx => hx
  | step _ h2 ih =>
    intro x hx
    obtain ⟨p, _, l, f, rfl⟩ := step_fit hb h2
    exact ih x (mem_put f hx)
/-! ### how many -/
theorem spots_20 : ∀ n ∈ List.range 7, ∀ k ∈ List.range 5, (spots n k).length ≤ 20 := by decide +kernel
theorem len_steps {b : List Rule} (hb : ∀ p ∈ b, IsRule p) (hl : b.length ≤ 8) {r : List Nat} (hr : r.length ≤ 6) : (stepsL b r).length ≤ 160 := by
  unfold stepsL
  rw [length_sortG]
  refine Nat.le_trans (length_keysOf _) ?_
  have h1 : ∀ b : List Rule, (∀ p ∈ b, IsRule p) → (allSteps b r).length ≤ 20 * b.length := by
    intro b
    induction b with
    | nil => simp [allSteps]
    | cons p b ih =>
      intro h
      have h2 := ih fun q hq => h q (by simp [hq])
      have h3 : (stepsOf r p).length ≤ 20 := by
        unfold stepsOf
        rw [List.length_map]
        refine Nat.le_trans (List.length_filter_le _ _) ?_
        exact spots_20 r.length (List.mem_range.mpr (by omega)) p.1.length (List.mem_range.mpr (by have := (h p (by simp)).hi; omega))
      unfold allSteps at *
      rw [List.flatMap_cons, List.length_append, List.length_cons]; omega
  have := h1 b hb
  omega
theorem len_reach {b : List Rule} (hb : ∀ p ∈ b, IsRule p) {r : List Nat} (hr : IsRow r) (hl : r.length ≤ 6) {ks : List (List Nat)} (hn : ks.Nodup) (hk : ∀ k ∈ ks, Reach b r k) : ks.length ≤ 46656 := by
  have h1 : ks.length ≤ (tuples r.length r.length).length := nodup_sub_len hn fun k h => mem_tuples.mpr ⟨(hk k h).len, fun x hx => hr.lt x ((hk k h).mem hb x hx)⟩
  rw [length_tuples] at h1
  have h2 : r.length ^ r.length ≤ 6 ^ r.length := Nat.pow_le_pow_left hl _
  have h3 : 6 ^ r.length ≤ 6 ^ 6 := Nat.pow_le_pow_right (by omega) hl
  omega
end Tw
set_option Elab.async false
set_option linter.all false
set_option maxRecDepth 100000
set_option maxHeartbeats 4000000
/-! Dicts by rows, loops over keys, while. -/
namespace Tw
open PySem
/-- a dict whose keys are rows -/
def kvF (v : List Nat → PyData) (ks : List (List Nat)) : List (PyData × PyData) := ks.map fun k => (rD k, v k)
@[simp] theorem kvF_nil {v : List Nat → PyData} : kvF v [] = [] := rfl
theorem kvF_cons {v : List Nat → PyData} {k : List Nat} {ks : List (List Nat)} : kvF v (k :: ks) = (rD k, v k) :: kvF v ks := rfl
@[simp] theorem kvF_keys {v : List Nat → PyData} {ks : List (List Nat)} : (kvF v ks).map (·.1) = ks.map rD := by simp [kvF, Function.comp_def]
@[simp] theorem kvF_len {v : List Nat → PyData} {ks : List (List Nat)} : (kvF v ks).length = ks.length := by simp [kvF]
theorem kvF_congr {v w : List Nat → PyData} {ks : List (List Nat)} (h : ∀ k ∈ ks, v k = w k) : kvF v ks = kvF w ks := List.map_congr_left fun k hk => by rw [h k hk]
theorem beq_rD (a k : List Nat) : beqD (rD a) (rD k) = decide (a = k) := by
  rw [beqD_dec]
  by_cases h : a = k
  · simp [h]
  · have : rD a ≠ rD k := fun e => h (rD_inj' _ _ e)
    simp [h, this]
theorem lookD_F (v : List Nat → PyData) (k : List Nat) : ∀ ks, lookD (rD k) (kvF v ks) = if k ∈ ks then some (v k) else none
  | [] => rfl
  | a :: ks => by
    rw [kvF_cons, lookD, beq_rD]
    by_cases h : a = k
    · subst h; simp
    · rw [lookD_F v k ks]
      simp [h, Ne.symm h]
theorem putD_F (v : List Nat → PyData) (k : List Nat) (d : PyData) : ∀ ks : List (List Nat), ks.Nodup → putD (rD k) d (kvF v ks) = kvF (fun x => if x = k then d else v x) (insK ks k)
  | [], _ => by simp [insK, kvF, putD]
  | a :: ks, hn => by
    obtain ⟨h1, h2⟩ := List.nodup_cons.mp hn
    rw [kvF_cons, putD, beq_rD]
    by_cases h : a = k
    · subst h
      have e : insK (a :: ks) a = a :: ks := by simp [insK]
      rw [e, kvF_cons, kvF_congr (w := fun x => if x = a then d else v x) fun x hx => by simp [show x ≠ a from fun e => h1 (e ▸ hx)]]
      simp
    · have e : insK (a :: ks) k = a :: insK ks k := by
        unfold insK
        by_cases hk : k ∈ ks <;> simp [hk, Ne.symm h]
      rw [e, kvF_cons, putD_F v k d ks h2]
      simp [h]
theorem storeIx_F {v : List Nat → PyData} {k : List Nat} {d : PyData} {ks : List (List Nat)} (hn : ks.Nodup) (hz : ks.length ≤ big) : storeIx (.od (kvF v ks)) (rD k) d = some (.od (kvF (fun x => if x = k then d else v x) (insK ks k))) := by
  rw [← putD_F v k d ks hn]
  show (if keyOk (rD k) && sz (kvF v ks).length then _ else _) = _
  rw [keyOk_rD, kvF_len]
  simp [sz, hz]
theorem ix_F {v : List Nat → PyData} {k : List Nat} {ks : List (List Nat)} (h : k ∈ ks) : ixD (.dict (kvF v ks)) (rD k) = some (v k) := by
  show (if keyOk (rD k) then lookD (rD k) (kvF v ks) else none) = _
  rw [keyOk_rD, lookD_F]
  simp [h]
theorem notin_F {v : List Nat → PyData} {k : List Nat} {ks : List (List Nat)} : cmpD .notin (rD k) (.dict (kvF v ks)) = some (!decide (k ∈ ks)) := by
  show (if keyOk (rD k) then some (!(lookD (rD k) (kvF v ks)).isSome) else none) = _
  rw [keyOk_rD, lookD_F]
  by_cases h : k ∈ ks <;> simp [h]
theorem get3_F {v : List Nat → PyData} {k : List Nat} {ks : List (List Nat)} {d : PyData} : get3D (.dict (kvF v ks)) (rD k) d = some (if k ∈ ks then v k else d) := by
  show (if keyOk (rD k) then some ((lookD (rD k) (kvF v ks)).getD d) else none) = _
  rw [keyOk_rD, lookD_F]
  by_cases h : k ∈ ks <;> simp [h]
theorem augR_F {v : List Nat → PyData} {k : List Nat} {ks : List (List Nat)} (h : k ∈ ks) {i : Int} (hv : v k = .int i) : augR (.od (kvF v ks)) (rD k) = some i := by
  show (if keyOk (rD k) then intO (lookD (rD k) (kvF v ks)) else none) = _
  rw [keyOk_rD, lookD_F]
  simp [h, hv, intO]
theorem bool_F {v : List Nat → PyData} {ks : List (List Nat)} : b1D .len (.dict (kvF v ks)) = some (.int ks.length, .c) := by
  show some (PyData.int ((kvF v ks).length), Fl.c) = _
  rw [kvF_len]
/-! ### loops -/
section
variable {α : Type} {C : Calls} {F : Nat} {env : Ev} {m m' : Mu} {Q : Flo × Ev → Mu → Prop}
theorem W_noex {β : Type} {x : Out β} {R : β → Mu → Prop} (h : W x R) : W x.noex R := by
  obtain ⟨a, m, e, q⟩ := h
  exact ⟨a, m, by rw [e]; rfl, q⟩
theorem ex_forK {tg : Tg} {a : Ex} {s : Sms} : ex C F (.for tg (.keys a) s) env m = (evI C (.keys a) env m).bind fun xs m => match xs.2 with
    | .b => .bad
    | _ => Out.noex (forL (fun x env m => match bindG tg env x with
      | some env' => exs C F s env' m
      | none => .bad) xs.1 env m) := by
  rw [ex]; rfl
/-- a loop over a dict's keys -/
theorem W_forK {tg : Tg} {a : Ex} {s : Sms} {fl : Fl} (l : List α) (e : α → PyData) (P : List α → Ev → Mu → Prop)
    (hi : evI C (.keys a) env m = .ok (l.map e, fl) m') (h0 : P [] env m')
    (hs : ∀ p a q env m (K : Flo × Ev → Mu → Prop), l = p ++ a :: q → P p env m → (∀ env m, P (p ++ [a]) env m → K (.next, env) m) → (∀ env m, Q (.next, env) m → K (.brk, env) m) → (∀ d env m, Q (.ret d, env) m → K (.ret d, env) m) → W (match bindG tg env (e a) with | some env' => exs C F s env' m | none => .bad) K)
    (hq : ∀ env m, P l env m → Q (.next, env) m) (hf : fl ≠ .b := by decide) : W (ex C F (.for tg (.keys a) s) env m) Q := by
  rw [ex_forK, hi, Out.bind_ok]
  have := W_noex (forL_W (e := e) (body := fun x env m => match bindG tg env x with | some env' => exs C F s env' m | none => .bad) (Q := Q) (P := P) l [] env m' (fun p a q env m e0 h => hs p a q env m _ e0 h (fun _ _ h => h) (fun _ _ h => h) (fun _ _ _ h => h)) h0 (by simpa using hq))
  cases fl with
  | b => exact absurd rfl hf
  | c => exact this
  | f => exact this
theorem ex_while {c : Ex} {s : Sms} : ex C F (.while c s) env m = whileL (ev C c) (exs C F s) F env m := by rw [ex]
/-- a while loop: a measure falls -/
theorem whileL_W {c : Ev → Mu → Out (PyData × Fl)} {body : Ev → Mu → Out (Flo × Ev)} (N : Nat) (I : Nat → Ev → Mu → Prop)
    (hs : ∀ n env m (K : Flo × Ev → Mu → Prop), n ≤ N → I n env m → (∀ n' env m, n' < n → I n' env m → K (.next, env) m) → (∀ env m, Q (.next, env) m → K (.brk, env) m) → (∀ d env m, Q (.ret d, env) m → K (.ret d, env) m) →
      ∃ k fl, c env m = .ok (.bool k, fl) m ∧ (k = false → Q (.next, env) m) ∧ (k = true → W (body env m) K)) :
    ∀ (n f : Nat) (env : Ev) (m : Mu), n < f → n ≤ N → I n env m → W (whileL c body f env m) Q := by
  intro n
  induction n using Nat.strongRecOn with
  | ind n ih =>
    intro f env m hf hN hI
    cases f with
    | zero => omega
    | succ f =>
      obtain ⟨k, fl, e, h1, h2⟩ := hs n env m (fun r m => match r.1 with | .next => ∃ n' < n, I n' r.2 m | .brk => Q (.next, r.2) m | .ret d => Q (.ret d, r.2) m) hN hI (fun n' env m hn hi => ⟨n', hn, hi⟩) (fun _ _ h => h) (fun _ _ _ h => h)
      rw [whileL, e, Out.bind_ok]
      cases k with
      | false => exact W_ok.mpr (h1 rfl)
      | true =>
        refine W_bind.mpr ((h2 rfl).mono fun r m' hr => ?_)
        obtain ⟨r, env'⟩ := r
        cases r with
        | next =>
          obtain ⟨n', hn', hi⟩ := hr
          exact ih n' hn' f env' m' (by omega) (by omega) hi
        | brk => exact W_ok.mpr hr
        | ret d => exact W_ok.mpr hr
theorem W_while {c : Ex} {s : Sms} (N : Nat) (I : Nat → Ev → Mu → Prop) (n : Nat) (hN : N < F) (hn : n ≤ N) (h0 : I n env m)
    (hs : ∀ n env m (K : Flo × Ev → Mu → Prop), n ≤ N → I n env m → (∀ n' env m, n' < n → I n' env m → K (.next, env) m) → (∀ env m, Q (.next, env) m → K (.brk, env) m) → (∀ d env m, Q (.ret d, env) m → K (.ret d, env) m) →
      ∃ k fl, ev C c env m = .ok (.bool k, fl) m ∧ (k = false → Q (.next, env) m) ∧ (k = true → W (exs C F s env m) K)) : W (ex C F (.while c s) env m) Q := by
  rw [ex_while]
  exact whileL_W N I hs n F env m (by omega) hn h0
theorem ex_popTo' {x y : Nat} {xs : List PyData} {d : PyData} (h : getS env x = some (.o (xs ++ [d]))) : ex C F (.popTo y x) env m = .ok (.next, setS (setS env x (.o xs)) y (.v d)) m := by
  rw [ex, h]; simp
theorem ex_augIx' {i : Nat} {k e : Ex} {o : Bo} {s : Sl} (h : ownS (getS env i) = some s) : ex C F (.augIx i k o e) env m = (ev C k env m).bind fun y m => match augR s y.1 with
      | some a => (ev C e env m).bind fun x m => match x.1, augO o with
        | .int b, some f => .of ((storeIx s y.1 (.int (f a b))).map fun s' => (.next, setS env i s')) m
        | _, _ => .bad
      | none => .bad := by
  rw [ex, h]; try rfl
end
theorem snoc_cases {α : Type} (l : List α) : l = [] ∨ ∃ rs x, l = rs ++ [x] := by
  rcases List.eq_nil_or_concat l with h | ⟨rs, x, h⟩
  · exact .inl h
  · exact .inr ⟨rs, x, by rw [h, List.concat_eq_append]⟩
theorem W.get {α : Type} {x : Out α} {m : Mu} {P : α → Prop} (h : W x fun a m' => P a ∧ m' = m) : ∃ a, P a ∧ x = .ok a m := by
  obtain ⟨a, m', e, hp, rfl⟩ := h
  exact ⟨a, hp, e⟩
end Tw
set_option Elab.async false
set_option linter.all false
set_option maxRecDepth 100000
set_option maxHeartbeats 4000000
/-! come_in: all that comes from a row. -/
namespace Tw
open PySem
abbrev toldV (succ : List Nat → List (List Nat)) (k : List Nat) : PyData := .list ((succ k).map rD)
theorem come_in_eq {F n : Nat} {b : List Rule} {r : List Nat} {m : Mu} (hp : ∀ p ∈ b, IsRule p) (hl : b.length ≤ 8) (hr : IsRow r) (hrl : r.length ≤ 6) (hF : big < F) :
    ∃ ks : List (List Nat), (ks.Nodup ∧ ∀ k, k ∈ ks ↔ Reach b r k) ∧ callN GT F (n + 3) 10 [.d (bD b), .d (rD r)] m = .ok (.dict (kvF (toldV (stepsL b)) ks)) m := by
  suffices h : W (callN GT F (n + 3) 10 [.d (bD b), .d (rD r)] m) (fun a m' => (∃ ks : List (List Nat), (ks.Nodup ∧ ∀ k, k ∈ ks ↔ Reach b r k) ∧ a = .dict (kvF (toldV (stepsL b)) ks)) ∧ m' = m) by
    obtain ⟨a, ⟨ks, hk, rfl⟩, e⟩ := W.get h
    exact ⟨ks, hk, e⟩
  obtain ⟨A, hA, hA1, hA2⟩ : ∃ A : Nat, A = 46656 ∧ 1 + A * 161 + 160 ≤ big ∧ A ≤ big := ⟨46656, rfl, by decide, by decide⟩
  have hb1 : 1 + A * 161 < F := by omega
  refine W_call f_come_in rfl rfl ?_
  simp [f_come_in, b_come_in, startS, slOf]
  refine W_while (1 + A * 161) (fun n env m' => m = m' ∧ ∃ (ks rows : List (List Nat)) (x4 : Option Sl), env = [some (.v (bD b)), some (.v (rD r)), some (.od (kvF (toldV (stepsL b)) ks)), some (.o (rows.map rD)), x4] ∧ ks.Nodup ∧ (∀ k ∈ ks, Reach b r k) ∧ (∀ k ∈ rows, Reach b r k) ∧ (r ∈ ks ∨ r ∈ rows) ∧ (∀ k ∈ ks, ∀ t ∈ stepsL b k, t ∈ ks ∨ t ∈ rows) ∧ n = rows.length + (A - ks.length) * 161) (1 + A * 161) hb1 (Nat.le_refl _) ⟨rfl, [], [r], none, rfl, by simp, by simp, fun k hk => ?_, by simp, by simp, by simp⟩ ?_
  · obtain rfl : k = r := by simpa using hk
    exact .refl
  · rintro N env _ K hN ⟨rfl, ks, rows, x4, rfl, h1, h2, h3, h4, h5, h6⟩ hK _ _
    have hks := len_reach hp hr hrl h1 h2
    rw [← hA] at hks
    refine ⟨!decide (rows = []), .c, by simp, fun h => ?_, fun h => ?_⟩
    · have hrows : rows = [] := by simpa using h
      subst hrows
      simp [slD]
      refine ⟨ks, ⟨h1, fun k => ⟨h2 k, fun hk => ?_⟩⟩, rfl⟩
      have h4 : r ∈ ks := by simpa using h4
      induction hk with
      | refl => exact h4
      | step _ ht ih => simpa using h5 _ ih _ ht
    · rcases snoc_cases rows with rfl | ⟨rs, x, rfl⟩
      · simp at h
      have hx : Reach b r x := h3 x (by simp)
      simp only [exs_cons]
      rw [ex_popTo' (xs := rs.map rD) (d := rD x) (by simp)]
      simp [notin_F]
      rw [List.length_append, List.length_singleton] at h6
      by_cases hxk : x ∈ ks
      · simp [hxk]
        refine hK _ _ _ ?_ ⟨rfl, ks, rs, _, rfl, h1, h2, fun k hk => h3 k (by simp [hk]), ?_, ?_, rfl⟩
        · omega
        · rcases h4 with h | h
          · exact .inl h
          · rcases List.mem_append.mp h with h | h
            · exact .inr h
            · have : r = x := by simpa using h
              exact .inl (this ▸ hxk)
        · intro k hk t ht
          rcases h5 k hk t ht with h | h
          · exact .inl h
          · rcases List.mem_append.mp h with h | h
            · exact .inr h
            · have : t = x := by simpa using h
              exact .inl (this ▸ hxk)
      · simp [hxk]
        have hxl : x.length ≤ 12 := by have := hx.len; omega
        rw [steps_in_eq hp hl hxl]
        have h7 := len_steps hp hl (show x.length ≤ 6 by have := hx.len; omega)
        have hks2 : ks.length + 1 ≤ 46656 := len_reach hp hr hrl (ks := x :: ks) (List.nodup_cons.mpr ⟨hxk, h1⟩) (fun k hk => by
          rcases List.mem_cons.mp hk with rfl | hk
          · exact hx
          · exact h2 k hk)
        rw [← hA] at hks2
        have e1 : insK ks x = ks ++ [x] := by simp [insK, hxk]
        have e2 : kvF (fun y => if y = x then toldV (stepsL b) x else toldV (stepsL b) y) (ks ++ [x]) = kvF (toldV (stepsL b)) (ks ++ [x]) := kvF_congr fun k _ => by
          by_cases h : k = x <;> simp [h]
        have e3 := storeIx_F (v := toldV (stepsL b)) (k := x) (d := toldV (stepsL b) x) h1 (by omega)
        rw [e1, e2] at e3
        have e4 : ixD (.dict (kvF (toldV (stepsL b)) (ks ++ [x]))) (rD x) = some (toldV (stepsL b) x) := ix_F (by simp)
        have e5 : binD .add (.list (rs.map rD)) (.list ((stepsL b x).map rD)) = some (.list ((rs ++ stepsL b x).map rD), .f) := by
          rw [bin_add_l (by simp only [List.length_map]; omega), List.map_append]
        simp [ownS, isOwn, e3, e4, e5, -List.map_append]
        refine hK _ _ _ ?_ ⟨rfl, ks ++ [x], rs ++ stepsL b x, _, rfl, ?_, ?_, ?_, ?_, ?_, rfl⟩
        · rw [List.length_append, List.length_append, List.length_singleton]; omega
        · rw [← e1]; exact nodup_insK h1
        · intro k hk
          rcases List.mem_append.mp hk with hk | hk
          · exact h2 k hk
          · have : k = x := by simpa using hk
            exact this ▸ hx
        · intro k hk
          rcases List.mem_append.mp hk with hk | hk
          · exact h3 k (by simp [hk])
          · exact hx.step hk
        · rcases h4 with h | h
          · exact .inl (by simp [h])
          · rcases List.mem_append.mp h with h | h
            · exact .inr (by simp [h])
            · exact .inl (by have : r = x := by simpa using h
                             simp [this])
        · intro k hk t ht
          rcases List.mem_append.mp hk with hk | hk
          · rcases h5 k hk t ht with h | h
            · exact .inl (by simp [h])
            · rcases List.mem_append.mp h with h | h
              · exact .inr (by simp [h])
              · exact .inl (by have : t = x := by simpa using h
                               simp [this])
          · have : k = x := by simpa using hk
            subst this
            exact .inr (by simp [ht])
end Tw
set_option Elab.async false
set_option linter.all false
set_option maxRecDepth 100000
set_option maxHeartbeats 4000000
/-! What a def does without the cell it does with any cell. -/
namespace Tw
open PySem
def plainSl : Sl → Bool
  | .cell => false
  | .scr _ => false
  | _ => true
def clean (env : Ev) : Prop := ∀ s, some s ∈ env → plainSl s = true
def Fq {α : Type} (m : Mu) (x y : Out α) : Prop := ∀ a m0, x = .ok a m0 → m0 = none ∧ y = .ok a m
def FqE (m : Mu) (x y : Out (Flo × Ev)) : Prop := ∀ r m0, x = .ok r m0 → m0 = none ∧ y = .ok r m ∧ clean r.2
section
variable {α β : Type} {m : Mu} {C : Calls}
theorem Fq_ok {a : α} : Fq m (.ok a none) (.ok a m) := fun b m0 e => by cases e; exact ⟨rfl, rfl⟩
theorem Fq_bad {y : Out α} : Fq m .bad y := fun b m0 e => by cases e
theorem Fq_of {o : Option α} : Fq m (.of o none) (.of o m) := by
  cases o with
  | none => exact Fq_bad
  | some a => exact Fq_ok
theorem Fq_bind {x y : Out α} {f g : α → Mu → Out β} (h : Fq m x y) (hf : ∀ a, Fq m (f a none) (g a m)) : Fq m (x.bind f) (y.bind g) := fun b m0 e => by
  cases x with
  | ok a m1 =>
    obtain ⟨e1, e2⟩ := h a m1 rfl
    subst e1
    rw [e2]
    exact hf a b m0 e
  | ex c fs m1 => cases e
  | bad => cases e
theorem Fq_bind' {x y : Out α} {f g : α → Mu → Out β} (h : Fq m x y) (hf : ∀ a m1, x = .ok a m1 → Fq m (f a none) (g a m)) : Fq m (x.bind f) (y.bind g) := fun b m0 e => by
  cases x with
  | ok a m1 =>
    obtain ⟨e1, e2⟩ := h a m1 rfl
    subst e1
    rw [e2]
    exact hf a none rfl b m0 e
  | ex c fs m1 => cases e
  | bad => cases e
theorem FqE_bind {x y : Out α} {f g : α → Mu → Out (Flo × Ev)} (h : Fq m x y) (hf : ∀ a, FqE m (f a none) (g a m)) : FqE m (x.bind f) (y.bind g) := fun b m0 e => by
  cases x with
  | ok a m1 =>
    obtain ⟨e1, e2⟩ := h a m1 rfl
    subst e1
    rw [e2]
    exact hf a b m0 e
  | ex c fs m1 => cases e
  | bad => cases e
theorem FqE_bind2 {x y : Out (Flo × Ev)} {f g : Flo × Ev → Mu → Out (Flo × Ev)} (h : FqE m x y) (hf : ∀ a, clean a.2 → FqE m (f a none) (g a m)) : FqE m (x.bind f) (y.bind g) := fun b m0 e => by
  cases x with
  | ok a m1 =>
    obtain ⟨e1, e2, e3⟩ := h a m1 rfl
    subst e1
    rw [e2]
    exact hf a e3 b m0 e
  | ex c fs m1 => cases e
  | bad => cases e
theorem FqE_bad {y : Out (Flo × Ev)} : FqE m .bad y := fun b m0 e => by cases e
theorem FqE_ok {a : Flo × Ev} (h : clean a.2) : FqE m (.ok a none) (.ok a m) := fun b m0 e => by cases e; exact ⟨rfl, rfl, h⟩
theorem FqE_of {o : Option (Flo × Ev)} (h : ∀ a, o = some a → clean a.2) : FqE m (.of o none) (.of o m) := by
  cases o with
  | none => exact FqE_bad
  | some a => exact FqE_ok (h a rfl)
theorem Fq_noex {x y : Out α} (h : Fq m x y) : Fq m x.noex y.noex := fun b m0 e => by
  cases x with
  | ok a m1 => obtain ⟨e1, e2⟩ := h a m1 rfl; cases e; rw [e2]; exact ⟨e1, rfl⟩
  | ex c fs m1 => cases e
  | bad => cases e
theorem FqE_noex {x y : Out (Flo × Ev)} (h : FqE m x y) : FqE m x.noex y.noex := fun b m0 e => by
  cases x with
  | ok a m1 => obtain ⟨e1, e2, e3⟩ := h a m1 rfl; cases e; rw [e2]; exact ⟨e1, rfl, e3⟩
  | ex c fs m1 => cases e
  | bad => cases e
theorem Fq_lc {f g : PyData → Mu → Out (Option PyData)} (h : ∀ x, Fq m (f x none) (g x m)) : ∀ xs, Fq m (lcLoop f xs none) (lcLoop g xs m)
  | [] => Fq_ok
  | x :: xs => Fq_bind (Fq_noex (h x)) fun y => Fq_bind (Fq_lc h xs) fun ds => Fq_ok
end
/-! ### clean frames -/
theorem clean_getS {env : Ev} (h : clean env) {i : Nat} {s : Sl} (e : getS env i = some s) : plainSl s = true := by
  unfold getS at e
  split at e
  · rename_i s' h'
    cases e
    exact h s (List.mem_of_getElem? h')
  · cases e
theorem clean_set {env : Ev} (h : clean env) {i : Nat} {o : Option Sl} (ho : ∀ s, o = some s → plainSl s = true) : clean (env.set i o) := fun s hs => by
  rcases List.mem_or_eq_of_mem_set hs with hs | hs
  · exact h s hs
  · exact ho s hs.symm
theorem clean_setS {env : Ev} (h : clean env) {i : Nat} {s : Sl} (hs : plainSl s = true) : clean (setS env i s) := clean_set h fun t e => by cases e; exact hs
theorem clean_wipe {env : Ev} (h : clean env) : ∀ own, clean (wipeS env own)
  | [] => h
  | v :: vs => clean_set (clean_wipe h vs) fun s e => by cases e
mutual
theorem clean_bindG : ∀ (t : Tg) (env : Ev) (x : PyData) (env' : Ev), clean env → bindG t env x = some env' → clean env'
  | .n i, env, x, env', h, e => by rw [bindG_n] at e; cases e; exact clean_setS h rfl
  | .t ts, env, x, env', h, e => by
    cases x with
    | tuple xs => rw [bindG_t] at e; exact clean_bindGs ts env xs env' h e
    | _ => rw [bindG] at e <;> (first | cases e | (intros; contradiction))
theorem clean_bindGs : ∀ (ts : Tgs) (env : Ev) (xs : List PyData) (env' : Ev), clean env → bindGs ts env xs = some env' → clean env'
  | .nil, env, xs, env', h, e => by
    cases xs with
    | nil => rw [bindGs_nil] at e; cases e; exact h
    | cons x xs => rw [bindGs] at e <;> (first | cases e | (intros; contradiction))
  | .cons t r, env, xs, env', h, e => by
    cases xs with
    | nil => rw [bindGs] at e <;> (first | cases e | (intros; contradiction))
    | cons x xs =>
      rw [bindGs_cons] at e
      cases hb : bindG t env x with
      | none => rw [hb] at e; cases e
      | some env1 => rw [hb] at e; exact clean_bindGs r env1 xs env' (clean_bindG t env x env1 h hb) e
end
theorem clean_setV {env : Ev} (h : clean env) {i : Nat} {p : PyData × Fl} {env' : Ev} (e : setV env i p = some env') : clean env' := by
  unfold setV at e
  split at e <;> cases e <;> exact clean_setS h rfl
theorem clean_parV : ∀ {is : List Nat} {env : Ev} {ps : List (PyData × Fl)} {env' : Ev}, clean env → parV env is ps = some env' → clean env'
  | [], env, [], env', h, e => by cases e; exact h
  | [], env, _ :: _, env', h, e => by cases e
  | _ :: _, env, [], env', h, e => by cases e
  | i :: is, env, p :: ps, env', h, e => by
    rw [parV_cons] at e
    cases hb : setV env i p with
    | none => rw [hb] at e; cases e
    | some env1 => rw [hb] at e; exact clean_parV (clean_setV h hb) e
theorem cell_clean {env : Ev} (h : clean env) {i n : Nat} {m : Mu} : cellGet (getS env i) m n = none := by
  cases e : getS env i with
  | none => rfl
  | some s => have := clean_getS h e; cases s <;> first | rfl | cases this
theorem scr_clean {env : Ev} (h : clean env) {i : Nat} {m : Mu} : scrGet (getS env i) m = none := by
  cases e : getS env i with
  | none => rfl
  | some s => have := clean_getS h e; cases s <;> first | rfl | cases this
theorem isCell_clean {env : Ev} (h : clean env) (e : Ex) : isCell env e = false := by
  unfold isCell
  split
  · split
    · rename_i h2; have := clean_getS h h2; cases this
    · rfl
  · rfl
theorem evA_d {C : Calls} {env : Ev} (h : clean env) : ∀ (es : Exs) (m : Mu) (vs : List Vl) (m1 : Mu), evA C es env m = .ok vs m1 → ∀ v ∈ vs, ∃ x, v = Vl.d x
  | .nil, m, vs, m1, e => by rw [evA_nil] at e; cases e; simp
  | .cons a r, m, vs, m1, e => by
    rw [evA_cons, isCell_clean h a] at e
    cases ha : ev C a env m with
    | ok x m2 =>
      rw [ha] at e
      simp only [Out.bind_ok] at e
      cases hk : keepD x with
      | none => rw [hk] at e; cases e
      | some d =>
        rw [hk] at e
        cases hr : evA C r env m2 with
        | ok ws m3 =>
          simp only [hr, Out.bind_ok] at e
          cases e
          intro v hv
          rcases List.mem_cons.mp hv with rfl | hv
          · exact ⟨d, rfl⟩
          · exact evA_d h r m2 ws m1 hr v hv
        | ex c fs m3 => simp only [hr, Out.bind_ex] at e; cases e
        | bad => simp only [hr, Out.bind_bad] at e; cases e
    | ex c fs m3 => rw [ha] at e; cases e
    | bad => rw [ha] at e; cases e
/-! ### the evaluator -/
section
variable {C : Calls} {F : Nat} {env : Ev} {m : Mu} {a b c x y z : Ex} {i j n : Nat}
theorem ev_rev : ev C (.rev a) env m = (ev C a env m).bind fun x m => match x.1 with
    | .tuple xs => .ok (.tuple xs.reverse, .c) m
    | _ => .bad := by rw [ev]; try rfl
theorem ev_get3 {o k d : Ex} : ev C (.get3 o k d) env m = (ev C o env m).bind fun x m => match isDicD x.1 with
    | true => (ev C k env m).bind fun y m => match keyOk y.1 with
      | true => (ev C d env m).bind fun z m => match keepD z with
        | some z => .of ((get3D x.1 y.1 z).map fun d => (d, .c)) m
        | none => .bad
      | false => .bad
    | false => .bad := by rw [ev]; try rfl
end
section
variable {C : Calls} {m : Mu} (hC : ∀ f vs, (∀ v ∈ vs, ∃ x, v = Vl.d x) → Fq m (C f vs none) (C f vs m))
include hC
mutual
theorem fr_ev : ∀ (e : Ex) (env : Ev), clean env → Fq m (ev C e env none) (ev C e env m)
  | .var i, env, h => by
    rw [ev_var, ev_var]
    cases getS env i with
    | none => exact Fq_bad
    | some s => cases s <;> first | exact Fq_ok | exact Fq_bad
  | .lit d, env, h => by rw [ev_lit, ev_lit]; exact Fq_ok
  | .glob s d, env, h => by rw [ev_glob, ev_glob]; exact Fq_ok
  | .cellIx i n, env, h => by rw [ev_cellIx, cell_clean h]; exact Fq_bad
  | .scrLen i, env, h => by rw [ev_scrLen, scr_clean h]; exact Fq_bad
  | .scrIx i e, env, h => by rw [ev_scrIx, scr_clean h]; exact Fq_bad
  | .tup es, env, h => by rw [ev_tup, ev_tup]; exact Fq_bind (fr_evs es env h) fun _ => Fq_ok
  | .lst es, env, h => by rw [ev_lst, ev_lst]; exact Fq_bind (fr_evs es env h) fun _ => Fq_ok
  | .emptyDict, env, h => by rw [ev_ed, ev_ed]; exact Fq_ok
  | .bin o a b, env, h => by rw [ev_bin, ev_bin]; exact Fq_bind (fr_ev a env h) fun _ => Fq_bind (fr_ev b env h) fun _ => Fq_of
  | .neg a, env, h => by rw [ev_neg, ev_neg]; exact Fq_bind (fr_ev a env h) fun _ => Fq_of
  | .cmp o a b, env, h => by rw [ev_cmp, ev_cmp]; exact Fq_bind (fr_ev a env h) fun _ => Fq_bind (fr_ev b env h) fun _ => Fq_of
  | .chain o p a b c, env, h => by
    rw [ev_chain, ev_chain]
    refine Fq_bind (fr_ev a env h) fun x => Fq_bind (fr_ev b env h) fun y => ?_
    cases cmpD o x.1 y.1 with
    | none => exact Fq_bad
    | some k => cases k with
      | true => exact Fq_bind (fr_ev c env h) fun _ => Fq_of
      | false => exact Fq_ok
  | .isNone a, env, h => by rw [ev_isNone, ev_isNone]; exact Fq_bind (fr_ev a env h) fun _ => Fq_ok
  | .notNone a, env, h => by rw [ev_notNone, ev_notNone]; exact Fq_bind (fr_ev a env h) fun _ => Fq_ok
  | .and a b, env, h => by
    rw [ev_and, ev_and]
    refine Fq_bind (fr_ev a env h) fun x => ?_
    obtain ⟨d, fl⟩ := x
    cases d with
    | bool k => cases k with
      | true => exact fr_ev b env h
      | false => exact Fq_ok
    | _ => exact Fq_bad
  | .or a b, env, h => by
    rw [ev_or, ev_or]
    refine Fq_bind (fr_ev a env h) fun x => ?_
    obtain ⟨d, fl⟩ := x
    cases d with
    | bool k => cases k with
      | true => exact Fq_ok
      | false => exact fr_ev b env h
    | _ => exact Fq_bad
  | .not a, env, h => by
    rw [ev_not, ev_not]
    refine Fq_bind (fr_ev a env h) fun x => ?_
    obtain ⟨d, fl⟩ := x
    cases d with
    | bool k => exact Fq_ok
    | _ => exact Fq_bad
  | .ite c a b, env, h => by
    rw [ev_ite, ev_ite]
    refine Fq_bind (fr_ev c env h) fun x => ?_
    obtain ⟨d, fl⟩ := x
    cases d with
    | bool k => cases k with
      | true => exact fr_ev a env h
      | false => exact fr_ev b env h
    | _ => exact Fq_bad
  | .ix a i, env, h => by rw [ev_ix, ev_ix]; exact Fq_bind (fr_ev a env h) fun _ => Fq_bind (fr_ev i env h) fun _ => Fq_of
  | .sliceTo a hi, env, h => by
    rw [ev_sliceTo, ev_sliceTo]
    refine Fq_bind (fr_ev a env h) fun x => Fq_bind (fr_ev hi env h) fun y => ?_
    obtain ⟨d, fl⟩ := y
    cases d with
    | int j => exact Fq_of
    | _ => exact Fq_bad
  | .sliceFrom a lo, env, h => by
    rw [ev_sliceFrom, ev_sliceFrom]
    refine Fq_bind (fr_ev a env h) fun x => Fq_bind (fr_ev lo env h) fun y => ?_
    obtain ⟨d, fl⟩ := y
    cases d with
    | int j => exact Fq_of
    | _ => exact Fq_bad
  | .slice a lo hi, env, h => by
    rw [ev_slice, ev_slice]
    refine Fq_bind (fr_ev a env h) fun x => Fq_bind (fr_ev lo env h) fun y => ?_
    obtain ⟨d, fl⟩ := y
    cases d with
    | int j =>
      refine Fq_bind (fr_ev hi env h) fun z => ?_
      obtain ⟨d, fl⟩ := z
      cases d with
      | int j => exact Fq_of
      | _ => exact Fq_bad
    | _ => exact Fq_bad
  | .rev a, env, h => by
    rw [ev_rev, ev_rev]
    refine Fq_bind (fr_ev a env h) fun x => ?_
    obtain ⟨d, fl⟩ := x
    cases d with
    | tuple j => exact Fq_ok
    | _ => exact Fq_bad
  | .call f es, env, h => by
    rw [ev_call, ev_call]
    exact Fq_bind' (β := PyData × Fl) (fr_evA es env h) fun vs m1 e => Fq_bind (hC f vs (evA_d h es none vs m1 e)) fun _ => Fq_ok
  | .b1 f a, env, h => by rw [ev_b1, ev_b1]; exact Fq_bind (fr_ev a env h) fun _ => Fq_of
  | .b2 f a b, env, h => by
    rw [ev_b2, ev_b2]
    refine Fq_bind (fr_ev a env h) fun x => ?_
    cases b2ok f x.1 with
    | true => exact Fq_bind (fr_ev b env h) fun _ => Fq_of
    | false => exact Fq_bad
  | .get3 o k d, env, h => by
    rw [ev_get3, ev_get3]
    refine Fq_bind (fr_ev o env h) fun x => ?_
    cases isDicD x.1 with
    | false => exact Fq_bad
    | true =>
      refine Fq_bind (fr_ev k env h) fun y => ?_
      cases keyOk y.1 with
      | false => exact Fq_bad
      | true =>
        refine Fq_bind (fr_ev d env h) fun z => ?_
        cases keepD z with
        | none => exact Fq_bad
        | some z => exact Fq_of
  | .comp0 elt tg it own, env, h => by
    rw [ev_c0, ev_c0]
    refine Fq_bind (fr_evI it env h) fun xs => ?_
    refine Fq_bind (Fq_lc (fun x => ?_) xs.1) fun ds => ?_
    · cases hb : bindG tg (wipeS env own) x with
      | none => exact Fq_bad
      | some env' =>
        refine Fq_bind (fr_ev elt env' (clean_bindG tg _ x env' (clean_wipe h own) hb)) fun y => ?_
        cases keepD y with
        | none => exact Fq_bad
        | some d => exact Fq_ok
    · by_cases hs : sz ds.length = true
      · simp only [hs, if_true]; exact Fq_ok
      · simp only [hs]; exact Fq_bad
  | .comp1 elt tg it cond own, env, h => by
    rw [ev_c1, ev_c1]
    refine Fq_bind (fr_evI it env h) fun xs => ?_
    refine Fq_bind (Fq_lc (fun x => ?_) xs.1) fun ds => ?_
    · cases hb : bindG tg (wipeS env own) x with
      | none => exact Fq_bad
      | some env' =>
        have hc := clean_bindG tg _ x env' (clean_wipe h own) hb
        refine Fq_bind (fr_ev cond env' hc) fun c => ?_
        obtain ⟨d, fl⟩ := c
        cases d with
        | bool k => cases k with
          | false => exact Fq_ok
          | true =>
            refine Fq_bind (fr_ev elt env' hc) fun y => ?_
            cases keepD y with
            | none => exact Fq_bad
            | some d => exact Fq_ok
        | _ => exact Fq_bad
    · by_cases hs : sz ds.length = true
      · simp only [hs, if_true]; exact Fq_ok
      · simp only [hs]; exact Fq_bad
theorem fr_evs : ∀ (es : Exs) (env : Ev), clean env → Fq m (evs C es env none) (evs C es env m)
  | .nil, env, h => by rw [evs_nil, evs_nil]; exact Fq_ok
  | .cons e r, env, h => by
    rw [evs_cons, evs_cons]
    refine Fq_bind (fr_ev e env h) fun x => ?_
    cases keepD x with
    | none => exact Fq_bad
    | some d => exact Fq_bind (fr_evs r env h) fun _ => Fq_ok
theorem fr_evA : ∀ (es : Exs) (env : Ev), clean env → Fq m (evA C es env none) (evA C es env m)
  | .nil, env, h => by rw [evA_nil, evA_nil]; exact Fq_ok
  | .cons e r, env, h => by
    rw [evA_cons, evA_cons, isCell_clean h e]
    refine Fq_bind (fr_ev e env h) fun x => ?_
    cases keepD x with
    | none => exact Fq_bad
    | some d => exact Fq_bind (fr_evA r env h) fun _ => Fq_ok
theorem fr_evI : ∀ (it : It) (env : Ev), clean env → Fq m (evI C it env none) (evI C it env m)
  | .val e, env, h => by rw [evI_val, evI_val]; exact Fq_bind (fr_ev e env h) fun _ => Fq_of
  | .range1 e, env, h => by
    rw [evI_range1, evI_range1]
    refine Fq_bind (fr_ev e env h) fun x => ?_
    obtain ⟨d, fl⟩ := x
    cases d with
    | int k =>
      simp only [rgO]
      split
      · exact Fq_ok
      · exact Fq_bad
    | _ => exact Fq_bad
  | .range2 a b, env, h => by
    rw [evI_range2, evI_range2]
    refine Fq_bind (fr_ev a env h) fun x => Fq_bind (fr_ev b env h) fun y => ?_
    obtain ⟨d, fl⟩ := x
    obtain ⟨d', fl'⟩ := y
    cases d with
    | int k => cases d' with
      | int k' =>
        simp only [rgO2]
        split
        · exact Fq_ok
        · exact Fq_bad
      | _ => exact Fq_bad
    | _ => exact Fq_bad
  | .enum e, env, h => by rw [evI_enum, evI_enum]; exact Fq_bind (fr_ev e env h) fun _ => Fq_of
  | .zip a b, env, h => by rw [evI_zip, evI_zip]; exact Fq_bind (fr_ev a env h) fun _ => Fq_bind (fr_ev b env h) fun _ => Fq_of
  | .keys e, env, h => by
    rw [evI_keys, evI_keys]
    refine Fq_bind (fr_ev e env h) fun x => ?_
    cases keysD x with
    | none => exact Fq_bad
    | some ks => exact Fq_ok
end
theorem fr_evP : ∀ (es : Exs) (env : Ev), clean env → Fq m (evP C es env none) (evP C es env m)
  | .nil, env, h => by rw [evP_nil, evP_nil]; exact Fq_ok
  | .cons e r, env, h => by
    rw [evP_cons, evP_cons]
    exact Fq_bind (fr_ev hC e env h) fun x => Fq_bind (fr_evP r env h) fun _ => Fq_ok
omit hC in
theorem fr_forL {f g : PyData → Ev → Mu → Out (Flo × Ev)} (hf : ∀ x env, clean env → FqE m (f x env none) (g x env m)) : ∀ (xs : List PyData) (env : Ev), clean env → FqE m (forL f xs env none) (forL g xs env m)
  | [], env, h => FqE_ok h
  | x :: xs, env, h => FqE_bind2 (hf x env h) fun r hr => by
    obtain ⟨r, e⟩ := r
    cases r with
    | next => exact fr_forL hf xs e hr
    | brk => exact FqE_ok hr
    | ret d => exact FqE_ok hr
omit hC in
theorem fr_whileL {c : Ev → Mu → Out (PyData × Fl)} {f : Ev → Mu → Out (Flo × Ev)} (hc : ∀ env, clean env → Fq m (c env none) (c env m)) (hf : ∀ env, clean env → FqE m (f env none) (f env m)) : ∀ (n : Nat) (env : Ev), clean env → FqE m (whileL c f n env none) (whileL c f n env m)
  | 0, env, h => FqE_bad
  | n + 1, env, h => by
    refine FqE_bind (hc env h) fun x => ?_
    obtain ⟨d, fl⟩ := x
    cases d with
    | bool k =>
      cases k with
      | false => exact FqE_ok (a := (Flo.next, env)) h
      | true =>
        refine FqE_bind2 (hf env h) fun r hr => ?_
        obtain ⟨r, e⟩ := r
        cases r with
        | next => exact fr_whileL hc hf n e hr
        | brk => exact FqE_ok hr
        | ret d => exact FqE_ok hr
    | _ => exact FqE_bad
omit hC in
theorem clean_storeIx {s s' : Sl} {k d : PyData} (e : storeIx s k d = some s') : plainSl s' = true := by
  unfold storeIx at e
  split at e
  · split at e <;> cases e; rfl
  · split at e <;> cases e; rfl
  · cases e
mutual
theorem fr_ex {F : Nat} : ∀ (s : Sm) (env : Ev), clean env → FqE m (ex C F s env none) (ex C F s env m)
  | .set i e, env, h => by
    rw [ex_set, ex_set]
    refine FqE_bind (fr_ev hC e env h) fun x => FqE_of fun a ha => ?_
    obtain ⟨env', h1, rfl⟩ := Option.map_eq_some_iff.mp ha
    exact clean_setV h h1
  | .setT ts e, env, h => by
    rw [ex_setT, ex_setT]
    refine FqE_bind (fr_ev hC e env h) fun x => ?_
    cases keepD x with
    | none => exact FqE_bad
    | some d =>
      cases d with
      | tuple xs =>
        refine FqE_of fun a ha => ?_
        obtain ⟨env', h1, rfl⟩ := Option.map_eq_some_iff.mp ha
        exact clean_bindGs ts env xs env' h h1
      | _ => exact FqE_bad
  | .par is es, env, h => by
    rw [ex_par, ex_par]
    refine FqE_bind (fr_evP hC es env h) fun x => FqE_of fun a ha => ?_
    obtain ⟨env', h1, rfl⟩ := Option.map_eq_some_iff.mp ha
    exact clean_parV h h1
  | .newCell i j ks, env, h => by
    rw [ex_newCell]
    have : newCellD (getS env j) none = none := by
      cases e : getS env j with
      | none => rfl
      | some s => have := clean_getS h e; cases s <;> first | rfl | cases this
    rw [this]; exact FqE_bad
  | .setCell i n e, env, h => by
    rw [ex_setCell, ex_setCell]
    refine FqE_bind (fr_ev hC e env h) fun x => ?_
    have : setCellD (getS env i) none x.1 n = none := by
      cases e : getS env i with
      | none => rfl
      | some s => have := clean_getS h e; cases s <;> first | rfl | cases this
    rw [this]; exact FqE_bad
  | .aug i o e, env, h => by
    rw [ex, ex]
    split
    · refine FqE_bind (fr_ev hC e env h) fun x => ?_
      split
      · exact FqE_ok (clean_setS h rfl)
      · exact FqE_bad
    · exact FqE_bad
  | .setIx i k e, env, h => by
    rw [ex_setIx, ex_setIx]
    refine FqE_bind (fr_ev hC e env h) fun x => ?_
    cases keepD x with
    | none => exact FqE_bad
    | some d =>
      cases ownS (getS env i) with
      | none => exact FqE_bad
      | some s =>
        refine FqE_bind (fr_ev hC k env h) fun y => FqE_of fun a ha => ?_
        obtain ⟨env', h1, rfl⟩ := Option.map_eq_some_iff.mp ha
        exact clean_setS h (clean_storeIx h1)
  | .augIx i k o e, env, h => by
    rw [ex, ex]
    cases ownS (getS env i) with
    | none => exact FqE_bad
    | some s =>
      refine FqE_bind (fr_ev hC k env h) fun y => ?_
      cases augR s y.1 with
      | none => exact FqE_bad
      | some a =>
        refine FqE_bind (fr_ev hC e env h) fun x => ?_
        split
        · refine FqE_of fun a ha => ?_
          obtain ⟨env', h1, rfl⟩ := Option.map_eq_some_iff.mp ha
          exact clean_setS h (clean_storeIx h1)
        · exact FqE_bad
  | .append i e, env, h => by
    rw [ex_append, ex_append]
    split
    · refine FqE_bind (fr_ev hC e env h) fun x => ?_
      cases keepD x with
      | none => exact FqE_bad
      | some d =>
        simp only
        split
        · exact FqE_ok (clean_setS h rfl)
        · exact FqE_bad
    · exact FqE_bad
  | .popTo y x, env, h => by
    rw [ex, ex]
    split
    · split
      · exact FqE_ok (clean_setS (clean_setS h rfl) rfl)
      · exact FqE_bad
    · exact FqE_bad
  | .pop x, env, h => by
    rw [ex, ex]
    split
    · split
      · exact FqE_ok (clean_setS h rfl)
      · exact FqE_bad
    · exact FqE_bad
  | .ret e, env, h => by
    rw [ex_ret, ex_ret]
    refine FqE_bind (fr_ev hC e env h) fun x => ?_
    cases keepD x with
    | none => exact FqE_bad
    | some d => exact FqE_ok h
  | .ifs c a b, env, h => by
    rw [ex_ifs, ex_ifs]
    refine FqE_bind (fr_ev hC c env h) fun x => ?_
    obtain ⟨d, fl⟩ := x
    cases d with
    | bool k => cases k with
      | true => exact fr_exs a env h
      | false => exact fr_exs b env h
    | _ => exact FqE_bad
  | .for tg it b, env, h => by
    have hb : ∀ x env, clean env → FqE m (match bindG tg env x with | some env' => exs C F b env' none | none => .bad) (match bindG tg env x with | some env' => exs C F b env' m | none => .bad) := fun x env h => by
      cases hg : bindG tg env x with
      | none => exact FqE_bad
      | some env' => exact fr_exs b env' (clean_bindG tg env x env' h hg)
    rw [ex, ex]
    refine FqE_bind (fr_evI hC it env h) fun xs => ?_
    obtain ⟨xs, fl⟩ := xs
    have := fr_forL (f := fun x env m => match bindG tg env x with | some env' => exs C F b env' m | none => .bad) (g := fun x env m => match bindG tg env x with | some env' => exs C F b env' m | none => .bad) hb xs env h
    cases fl with
    | b => exact FqE_bad
    | c =>
      by_cases hk : isKeys it = true
      · simp only [hk, if_true]; exact FqE_noex this
      · simp only [hk]; exact this
    | f =>
      by_cases hk : isKeys it = true
      · simp only [hk, if_true]; exact FqE_noex this
      · simp only [hk]; exact this
  | .while c b, env, h => by
    rw [ex, ex]
    exact fr_whileL (fun env h => fr_ev hC c env h) (fun env h => fr_exs b env h) F env h
  | .brk, env, h => by rw [ex_brk, ex_brk]; exact FqE_ok h
  | .expr e, env, h => by rw [ex_expr, ex_expr]; exact FqE_bind (fr_ev hC e env h) fun x => FqE_ok h
  | .raise c fs es, env, h => by
    rw [ex, ex]
    exact FqE_bind (fr_evs hC es env h) fun ds => fun b m0 e => by cases e
  | .never, env, h => by rw [ex_never]; exact FqE_bad
  | .freeze i, env, h => by
    rw [ex_freeze, ex_freeze]
    cases hg : getS env i with
    | none => exact FqE_ok h
    | some s => cases s with
      | cell => exact FqE_ok h
      | scr ns => exact FqE_ok h
      | _ => exact FqE_ok (clean_setS h rfl)
theorem fr_exs {F : Nat} : ∀ (ss : Sms) (env : Ev), clean env → FqE m (exs C F ss env none) (exs C F ss env m)
  | .nil, env, h => by rw [exs_nil, exs_nil]; exact FqE_ok h
  | .cons s r, env, h => by
    rw [exs_cons, exs_cons]
    refine FqE_bind2 (fr_ex s env h) fun p hp => ?_
    obtain ⟨p, e⟩ := p
    cases p with
    | next => exact fr_exs r e hp
    | brk => exact FqE_ok hp
    | ret d => exact FqE_ok hp
end
end
/-- a def without the cell does the same beside any cell -/
theorem fr_call {T : List Fn} {F : Nat} {m : Mu} : ∀ (n f : Nat) (vs : List Vl), (∀ v ∈ vs, ∃ x, v = Vl.d x) → Fq m (callN T F n f vs none) (callN T F n f vs m)
  | 0, f, vs, h => Fq_bad
  | n + 1, f, vs, h => by
    show Fq m (match T[f]? with | some fn => if vs.length = fn.np then sameM none (endF (exs (callN T F n) F fn.body (startS fn.nl vs) none)) else .bad | none => .bad) (match T[f]? with | some fn => if vs.length = fn.np then sameM m (endF (exs (callN T F n) F fn.body (startS fn.nl vs) m)) else .bad | none => .bad)
    cases T[f]? with
    | none => exact Fq_bad
    | some fn =>
      simp only
      split
      · have hc : clean (startS fn.nl vs) := fun s hs => by
          unfold startS at hs
          rcases List.mem_append.mp hs with hs | hs
          · obtain ⟨v, hv, e⟩ := List.mem_map.mp hs
            obtain ⟨x, rfl⟩ := h v hv
            cases e; rfl
          · have := List.eq_of_mem_replicate hs; cases this
        have := fr_exs (C := callN T F n) (hC := fun f vs h => fr_call n f vs h) (F := F) (m := m) fn.body (startS fn.nl vs) hc
        intro d m0 e
        cases hx : exs (callN T F n) F fn.body (startS fn.nl vs) none with
        | ok r m1 =>
          obtain ⟨e1, e2, e3⟩ := this r m1 hx
          subst e1
          rw [hx] at e
          rw [e2]
          obtain ⟨r, env⟩ := r
          cases r with
          | next => cases e; exact ⟨rfl, by simp [endF, sameM]⟩
          | ret d => cases e; exact ⟨rfl, by simp [endF, sameM]⟩
          | brk => cases e
        | ex c fs m1 => rw [hx] at e; simp only [endF, sameM] at e; split at e <;> cases e
        | bad => rw [hx] at e; cases e
      · exact Fq_bad
theorem call_any {F n f : Nat} {vs : List Vl} {d : PyData} (m : Mu) (h : ∀ v ∈ vs, ∃ x, v = Vl.d x) (e : callN GT F n f vs none = .ok d none) : callN GT F n f vs m = .ok d m := (fr_call n f vs h d none e).2
end Tw
set_option Elab.async false
set_option linter.all false
set_option maxRecDepth 100000
set_option maxHeartbeats 4000000
/-! order_in: an order of what comes. -/
namespace Tw
open PySem
theorem sorted_R {l : List (List Nat)} {k : Nat} (h : ∀ r ∈ l, r.length = k) (hn : l.Nodup) (hl : l.length ≤ big) : b1D .sorted (.list (l.map rD)) = some (.list ((sortG ltR l).map rD), .f) := by
  have hs : sortable (l.map rD) = true := by
    by_cases hk : 0 < k ∨ l = []
    · exact sortable_R h hk hl
    · have h0 : k = 0 := by omega
      have h1 : ∀ r ∈ l, r = [] := fun r hr => List.eq_nil_of_length_eq_zero (by rw [h r hr, h0])
      match l, h1, hn, hk with
      | [], _, _, hk => exact absurd (.inr rfl) hk
      | [r], h1, _, _ => rw [h1 r (by simp)]; rfl
      | r :: s :: _, h1, hn, _ => rw [h1 r (by simp), h1 s (by simp)] at hn; simp at hn
  show (if sortable (l.map rD) then some (PyData.list (sortD (l.map rD)), Fl.f) else none) = _
  rw [if_pos hs, sortD_G (fun _ _ => ltD_R)]
theorem backsOf_snoc {ks : List (List Nat)} {succ : List Nat → List (List Nat)} {k x : List Nat} : backsOf (ks ++ [k]) succ x = backsOf ks succ x ++ (if x ∈ succ k then [k] else []) := by
  unfold backsOf
  rw [List.filter_append]
  by_cases h : x ∈ succ k <;> simp [h]
theorem backsOf_len {ks : List (List Nat)} {succ : List Nat → List (List Nat)} {x : List Nat} : (backsOf ks succ x).length ≤ ks.length := List.length_filter_le _ _
theorem backsOf_nodup {ks : List (List Nat)} {succ : List Nat → List (List Nat)} {x : List Nat} (hn : ks.Nodup) : (backsOf ks succ x).Nodup := by
  unfold backsOf; exact hn.filter _
theorem backsOf_nil {ks : List (List Nat)} {succ : List Nat → List (List Nat)} {x : List Nat} (h : ¬∃ k ∈ ks, x ∈ succ k) : backsOf ks succ x = [] := by
  unfold backsOf
  rw [List.filter_eq_nil_iff]
  intro k hk hx
  exact h ⟨k, hk, by simpa using hx⟩
/-- what leads to x, as the dict holds it -/
abbrev backV (ks : List (List Nat)) (succ : List Nat → List (List Nat)) (x : List Nat) : PyData := .list ((backsOf ks succ x).map rD)
def backQ (ks : List (List Nat)) (succ : List Nat → List (List Nat)) (k : List Nat) (q : List (List Nat)) (x : List Nat) : PyData := .list ((backsOf ks succ x ++ (if x ∈ q then [k] else [])).map rD)
def waitV (succ : List Nat → List (List Nat)) (found q : List (List Nat)) (k : List Nat) : PyData := .int ((cntN found (succ k) : Int) - (if k ∈ q then 1 else 0))
theorem order_in_eq {F n c : Nat} {succ : List Nat → List (List Nat)} {ks : List (List Nat)} {m : Mu} (hn : ks.Nodup) (hc : ∀ k ∈ ks, ∀ t ∈ succ k, t ∈ ks) (hs : ∀ k ∈ ks, (succ k).Nodup) (hl : ks.length ≤ 46656) (hlen : ∀ k ∈ ks, k.length = c) (hF : big < F) :
    ∃ found : List (List Nat), Kahn ks succ found [] ∧ callN GT F (n + 1) 13 [.d (.dict (kvF (toldV succ) ks))] m = .ok (if found.length = ks.length then .list (found.map rD) else .none) m := by
  suffices h : W (callN GT F (n + 1) 13 [.d (.dict (kvF (toldV succ) ks))] m) (fun a m' => (∃ found : List (List Nat), Kahn ks succ found [] ∧ a = if found.length = ks.length then .list (found.map rD) else .none) ∧ m' = m) by
    obtain ⟨a, ⟨found, hk, rfl⟩, e⟩ := W.get h
    exact ⟨found, hk, e⟩
  obtain ⟨A, hA, hA1, hb2⟩ : ∃ A : Nat, A = 46656 ∧ A + A + A ≤ big ∧ A + 1 ≤ big := ⟨46656, rfl, by decide, by decide⟩
  rw [← hA] at hl
  have hb1 : A < F := by omega
  refine W_call f_order_in rfl rfl ?_
  simp [f_order_in, b_order_in, startS, slOf]
  refine W_forK (fl := .c) (m' := m) ks rD (fun pre env m' => m = m' ∧ ∃ (bk : List (List Nat)) (x1 x4 : Option Sl), env = [some (.v (.dict (kvF (toldV succ) ks))), x1, some (.od (kvF (waitV succ [] []) pre)), some (.od (kvF (backV pre succ) bk)), x4, none, none, none] ∧ bk.Nodup ∧ ∀ x, x ∈ bk ↔ ∃ k ∈ pre, x ∈ succ k) ?_ ?_ ?_ ?_
  · simp
  · exact ⟨rfl, [], none, none, rfl, by simp, by simp⟩
  · rintro pre k post env _ K e ⟨rfl, bk, x1, x4, rfl, hbn, hbk⟩ hK _ _
    have hkk : k ∈ ks := by rw [e]; simp
    have hkp : k ∉ pre := fun h => by
      rw [e] at hn
      exact (List.nodup_append.mp hn).2.2 k h k (by simp) rfl
    have hpn : pre.Nodup := by rw [e] at hn; exact (List.nodup_append.mp hn).1
    have hpl : pre.length + 1 ≤ ks.length := by rw [e]; simp
    have e1 : ixD (.dict (kvF (toldV succ) ks)) (rD k) = some (toldV succ k) := ix_F hkk
    have e2 : storeIx (.od (kvF (waitV succ [] []) pre)) (rD k) (.int (succ k).length) = some (.od (kvF (waitV succ [] []) (pre ++ [k]))) := by
      rw [storeIx_F hpn (by omega), show insK pre k = pre ++ [k] by simp [insK, hkp]]
      refine congrArg (fun z => some (Sl.od z)) (kvF_congr fun x _ => ?_)
      by_cases h : x = k
      · subst h; simp [waitV, cntN_nil]
      · simp [h]
    simp [e1, ownS, isOwn, e2]
    refine W_for (fl := .c) (m' := m) (succ k) rD (fun q env m' => m = m' ∧ ∃ (bk : List (List Nat)) (x4 : Option Sl), env = [some (.v (.dict (kvF (toldV succ) ks))), some (.v (rD k)), some (.od (kvF (waitV succ [] []) (pre ++ [k]))), some (.od (kvF (backQ pre succ k q) bk)), x4, none, none, none] ∧ bk.Nodup ∧ ∀ x, x ∈ bk ↔ (∃ k ∈ pre, x ∈ succ k) ∨ x ∈ q) ?_ ?_ ?_ ?_
    · simp [e1, joinF]
    · refine ⟨rfl, bk, x4, ?_, hbn, by simpa using hbk⟩
      have : kvF (backQ pre succ k []) bk = kvF (backV pre succ) bk := kvF_congr fun x _ => by simp [backQ]
      rw [this]
    · rintro q t q2 env _ K2 e3 ⟨rfl, bk2, y4, rfl, hbn2, hbk2⟩ hK2 _ _
      have htq : t ∉ q := fun h => by
        have := hs k hkk
        rw [e3] at this
        exact (List.nodup_append.mp this).2.2 t h t (by simp) rfl
      have e4 : get3D (.dict (kvF (backQ pre succ k q) bk2)) (rD t) (.list []) = some (backV pre succ t) := by
        rw [get3_F]
        by_cases h : t ∈ bk2
        · simp [h, backQ, htq]
        · have h2 : ¬∃ k ∈ pre, t ∈ succ k := fun h3 => h ((hbk2 t).mpr (.inl h3))
          simp [h, backsOf_nil h2]
      have e5 : binD .add (backV pre succ t) (.list [rD k]) = some (.list ((backsOf pre succ t ++ [k]).map rD), .f) := by
        have := backsOf_len (ks := pre) (succ := succ) (x := t)
        rw [bin_add_l (by simp only [List.length_map, List.length_singleton]; omega), List.map_append]; rfl
      have hbl : bk2.length ≤ A := Nat.le_trans (nodup_sub_len (ks := ks) hbn2 fun x hx => by
        rcases (hbk2 x).mp hx with ⟨k', hk', hx'⟩ | h
        · exact hc k' (by rw [e]; simp [hk']) x hx'
        · exact hc k hkk x (by rw [e3]; simp [h])) hl
      have e6 : storeIx (.od (kvF (backQ pre succ k q) bk2)) (rD t) (.list ((backsOf pre succ t ++ [k]).map rD)) = some (.od (kvF (backQ pre succ k (q ++ [t])) (insK bk2 t))) := by
        rw [storeIx_F hbn2 (by omega)]
        refine congrArg (fun z => some (Sl.od z)) (kvF_congr fun x _ => ?_)
        by_cases h : x = t
        · subst h; simp [backQ]
        · simp [h, backQ]
      simp [ev_get3, isDicD, keyOk_rD, e4, e5, e6, ownS, isOwn, -List.map_append]
      refine hK2 _ _ ⟨rfl, insK bk2 t, _, rfl, nodup_insK hbn2, fun x => ?_⟩
      rw [mem_insK, hbk2]
      simp only [List.mem_append, List.mem_singleton]
      constructor
      · rintro ((h | h) | h)
        · exact .inl h
        · exact .inr (.inl h)
        · exact .inr (.inr h)
      · rintro (h | h | h)
        · exact .inl (.inl h)
        · exact .inl (.inr h)
        · exact .inr h
    · rintro env _ ⟨rfl, bk2, y4, rfl, hbn2, hbk2⟩
      simp
      have e7 : kvF (backQ pre succ k (succ k)) bk2 = kvF (backV (pre ++ [k]) succ) bk2 := kvF_congr fun x _ => by
        rw [backQ, backV, backsOf_snoc]
      rw [e7]
      refine hK _ _ ⟨rfl, bk2, some (.v (rD k)), y4, rfl, hbn2, fun x => ?_⟩
      · rw [hbk2]
        constructor
        · rintro (⟨k', h, h'⟩ | h)
          · exact ⟨k', by simp [h], h'⟩
          · exact ⟨k, by simp, h⟩
        · rintro ⟨k', h, h'⟩
          rcases List.mem_append.mp h with h | h
          · exact .inl ⟨k', h, h'⟩
          · have : k' = k := by simpa using h
            exact .inr (this ▸ h')
  · rintro env _ ⟨rfl, bk, x1, x4, rfl, hbn, hbk⟩
    have hfl : (ks.filter fun k => decide (succ k = [])).length ≤ ks.length := List.length_filter_le _ _
    simp
    rw [ev_comp1 ks rD (fun k => decide (succ k = [])) id rD .c (by simp) (by omega)]
    · have hks : ∀ k ∈ ks.filter (fun k => decide (succ k = [])), k.length = c := fun k hk => hlen k (List.mem_filter.mp hk).1
      have e1 := sorted_R hks (hn.filter _) (by omega)
      simp only [List.map_id, W_ok]
      rw [e1]
      simp
      refine W_while A (fun N env m' => m = m' ∧ ∃ (found rows : List (List Nat)) (x1 s3 x4 x7 : Option Sl), env = [some (.v (.dict (kvF (toldV succ) ks))), x1, some (.od (kvF (waitV succ found []) ks)), s3, x4, some (.o (rows.map rD)), some (.o (found.map rD)), x7] ∧ (s3 = some (.od (kvF (backV ks succ) bk)) ∨ s3 = some (.v (.dict (kvF (backV ks succ) bk)))) ∧ Kahn ks succ found rows ∧ N = ks.length - found.length) ks.length hb1 hl ⟨rfl, [], sortG ltR (ks.filter fun k => decide (succ k = [])), x1, _, x4, none, rfl, .inl rfl, kahn_start hn (sortG_perm _ _), by simp⟩ ?_
      rintro N env _ K hN ⟨rfl, found, rows, y1, s3, y4, y7, rfl, hs3, hK0, hNe⟩ hK _ _
      have hfk := nodup_sub_len hK0.nf hK0.sf
      refine ⟨!decide (rows = []), .c, by simp, fun h => ?_, fun h => ?_⟩
      · have hrows : rows = [] := by simpa using h
        subst hrows
        simp [slD, bool_F]
        refine ⟨found, hK0, ?_⟩
        by_cases h : found.length = ks.length <;> simp [h]
      · rcases snoc_cases rows with rfl | ⟨rs, x, rfl⟩
        · simp at h
        have hxf : x ∉ found := hK0.dis x (by simp)
        have hxk : x ∈ ks := hK0.sr x (by simp)
        have hfk2 : found.length + 1 ≤ ks.length := by
          have := nodup_sub_len (l := x :: found) (ks := ks) (List.nodup_cons.mpr ⟨hxf, hK0.nf⟩) fun y hy => by
            rcases List.mem_cons.mp hy with rfl | hy
            · exact hxk
            · exact hK0.sf y hy
          simpa using this
        have hKs : Kahn ks succ (found ++ [x]) (rs ++ (backsOf ks succ x).filter fun k => decide (∀ t ∈ succ k, t ∈ found ++ [x])) := by
          refine Eq.mp (congrArg (fun z => Kahn ks succ (found ++ [x]) (rs ++ z)) (List.filter_congr fun k _ => ?_)) (kahn_step hn hK0)
          exact decide_eq_decide.mpr Iff.rfl
        have e2 : get3D (.dict (kvF (backV ks succ) bk)) (rD x) (.list []) = some (backV ks succ x) := by
          rw [get3_F]
          by_cases h : x ∈ bk
          · simp [h]
          · have h2 : ¬∃ k ∈ ks, x ∈ succ k := fun h3 => h ((hbk x).mpr h3)
            simp [h, backsOf_nil h2]
        have hfb : found.length ≤ big := by omega
        simp only [exs_cons]
        rw [ex_popTo' (xs := rs.map rD) (d := rD x) (by simp)]
        have e3 : slD (.od (kvF (backV ks succ) bk)) = .dict (kvF (backV ks succ) bk) := rfl
        have e3' : slD (.v (.dict (kvF (backV ks succ) bk))) = .dict (kvF (backV ks succ) bk) := rfl
        have go : ∀ s3 : Option Sl, (s3 = some (.od (kvF (backV ks succ) bk)) ∨ s3 = some (.v (.dict (kvF (backV ks succ) bk)))) → ∀ (e0 : Ev), ex (callN GT F n) F (.freeze 3) [some (.v (.dict (kvF (toldV succ) ks))), some (.v (rD x)), some (.od (kvF (waitV succ found []) ks)), s3, y4, some (.o (rs.map rD)), some (.o (found.map rD ++ [rD x])), y7] m = .ok (.next, [some (.v (.dict (kvF (toldV succ) ks))), some (.v (rD x)), some (.od (kvF (waitV succ found []) ks)), some (.v (.dict (kvF (backV ks succ) bk))), y4, some (.o (rs.map rD)), some (.o (found.map rD ++ [rD x])), y7]) m := by
          rintro s3 (rfl | rfl) _ <;> simp [slD]
        simp [sz, hfb, -ex_freeze]
        rw [go s3 hs3 []]
        simp
        refine W_for (fl := .c) (m' := m) (backsOf ks succ x) rD (fun q env m' => m = m' ∧ ∃ (x7 : Option Sl), env = [some (.v (.dict (kvF (toldV succ) ks))), some (.v (rD x)), some (.od (kvF (waitV succ found q) ks)), some (.v (.dict (kvF (backV ks succ) bk))), y4, some (.o ((rs ++ q.filter fun k => decide (∀ t ∈ succ k, t ∈ found ++ [x])).map rD)), some (.o (found.map rD ++ [rD x])), x7]) ?_ ?_ ?_ ?_
        · simp [ev_get3, isDicD, keyOk_rD, e2, joinF]
        · exact ⟨rfl, _, by simp; rfl⟩
        · rintro q k q2 env _ K2 e4 ⟨rfl, z7, rfl⟩ hK2 _ _
          have hkb : k ∈ backsOf ks succ x := by rw [e4]; simp
          have hkk : k ∈ ks := (List.mem_filter.mp hkb).1
          have hxs : x ∈ succ k := by simpa using (List.mem_filter.mp hkb).2
          have hkq : k ∉ q := fun h => by
            have := backsOf_nodup (succ := succ) (x := x) hn
            rw [e4] at this
            exact (List.nodup_append.mp this).2.2 k h k (by simp) rfl
          have hcn := cntN_add (found := found) (l := succ k) (x := x) (hs k hkk) hxf
          rw [if_pos hxs] at hcn
          have hrl : (rs ++ [x]).length ≤ ks.length := nodup_sub_len hK0.nr hK0.sr
          rw [List.length_append, List.length_singleton] at hrl
          have hql : q.length ≤ ks.length := by
            have h1 := backsOf_len (ks := ks) (succ := succ) (x := x)
            rw [e4, List.length_append] at h1
            omega
          have hfq : (q.filter fun k => decide (∀ t ∈ succ k, t ∈ found ++ [x])).length ≤ q.length := List.length_filter_le _ _
          have e5 : augR (.od (kvF (waitV succ found q) ks)) (rD k) = some (cntN found (succ k) : Int) := augR_F hkk (by simp [waitV, hkq])
          have e6 : storeIx (.od (kvF (waitV succ found q) ks)) (rD k) (.int ((cntN found (succ k) : Int) - 1)) = some (.od (kvF (waitV succ found (q ++ [k])) ks)) := by
            rw [storeIx_F hn (by omega), show insK ks k = ks by simp [insK, hkk]]
            refine congrArg (fun z => some (Sl.od z)) (kvF_congr fun y _ => ?_)
            by_cases h : y = k
            · subst h; simp [waitV]
            · simp [h, waitV]
          have e7 : ixD (.dict (kvF (waitV succ found (q ++ [k])) ks)) (rD k) = some (.int ((cntN found (succ k) : Int) - 1)) := by
            rw [ix_F hkk]; simp [waitV]
          have e8 : ((cntN found (succ k) : Int) - 1 = 0) ↔ ∀ t ∈ succ k, t ∈ found ++ [x] := by
            rw [← cntN_zero]; omega
          simp only [bindG_n, setS_succ, setS_zero, exs_cons]
          rw [ex_augIx' (s := .od (kvF (waitV succ found q) ks)) (by simp [ownS, isOwn])]
          simp only [ev_var, getS_succ, getS_zero, Out.bind_ok, e5, ev_lit, augO, e6, Option.map_some, Out.of_some, setS_succ, setS_zero, nx_next, exs_cons, ex_ifs, ev_cmp, ev_ix, e7, cmpD, eqD_int, bb_b, exs_nil]
          by_cases hz : ∀ t ∈ succ k, t ∈ found ++ [x]
          · have hz2 := e8.mpr hz
            have e9 : (rs ++ q.filter fun k => decide (∀ t ∈ succ k, t ∈ found ++ [x])) ++ [k] = rs ++ (q ++ [k]).filter fun k => decide (∀ t ∈ succ k, t ∈ found ++ [x]) := by
              rw [List.filter_append, List.filter_cons_of_pos (by simpa using hz), List.filter_nil, List.append_assoc]
            have e10 : (rs ++ q.filter fun k => decide (∀ t ∈ succ k, t ∈ found ++ [x])).map rD ++ [rD k] = (rs ++ (q ++ [k]).filter fun k => decide (∀ t ∈ succ k, t ∈ found ++ [x])).map rD := by
              rw [← e9]; simp only [List.map_append, List.map_cons, List.map_nil]
            have hsz : sz ((rs ++ q.filter fun k => decide (∀ t ∈ succ k, t ∈ found ++ [x])).map rD).length = true := by
              rw [List.length_map, List.length_append]
              exact decide_eq_true (by omega)
            simp only [hz2, decide_true, if_true, exs_cons, ex_append, getS_succ, getS_zero, ev_var, Out.bind_ok, keepD_c, hsz, setS_succ, setS_zero, nx_next, exs_nil, e10, W_ok]
            exact hK2 _ _ ⟨rfl, _, rfl⟩
          · have hz2 : ¬ ((cntN found (succ k) : Int) - 1 = 0) := fun h => hz (e8.mp h)
            have e9 : (q.filter fun k => decide (∀ t ∈ succ k, t ∈ found ++ [x])) = (q ++ [k]).filter fun k => decide (∀ t ∈ succ k, t ∈ found ++ [x]) := by
              rw [List.filter_append, List.filter_cons_of_neg (by simpa using hz), List.filter_nil, List.append_nil]
            simp only [hz2, decide_false, if_false, Out.bind_ok, nx_next, exs_nil, W_ok, e9, Bool.false_eq_true, reduceIte]
            exact hK2 _ _ ⟨rfl, _, rfl⟩
        · rintro env _ ⟨rfl, z7, rfl⟩
          simp only [nx_next, exs_nil, W_ok]
          have e5 : kvF (waitV succ found (backsOf ks succ x)) ks = kvF (waitV succ (found ++ [x]) []) ks := kvF_congr fun k hk => by
            have hcn := cntN_add (found := found) (l := succ k) (x := x) (hs k hk) hxf
            have hb : k ∈ backsOf ks succ x ↔ x ∈ succ k := by
              unfold backsOf
              rw [List.mem_filter]
              simp [hk]
            unfold waitV
            by_cases h : x ∈ succ k
            · rw [if_pos h] at hcn
              simp [hb, h]; omega
            · rw [if_neg h] at hcn
              simp [hb, h]; omega
          have e6 : found.map rD ++ [rD x] = (found ++ [x]).map rD := by simp
          rw [e5, e6]
          refine hK _ _ _ ?_ ⟨rfl, found ++ [x], _, _, _, _, _, rfl, .inr rfl, hKs, rfl⟩
          rw [List.length_append, List.length_singleton]; omega
    · intro k hk
      simp [ix_F hk]
end Tw
set_option Elab.async false
set_option linter.all false
set_option maxRecDepth 100000
set_option maxHeartbeats 4000000
/-! longest, goes_on: with a weight that falls. -/
namespace Tw
open PySem
theorem foldl_max_le {B : Int} : ∀ (l : List Int) (x : Int), x ≤ B → (∀ y ∈ l, y ≤ B) → l.foldl max x ≤ B
  | [], x, hx, _ => hx
  | a :: l, x, hx, h => foldl_max_le l (max x a) (by have := h a (by simp); omega) fun y hy => h y (by simp [hy])
theorem le_foldl_max : ∀ (l : List Int) (x : Int), x ≤ l.foldl max x
  | [], x => Int.le_refl x
  | a :: l, x => Int.le_trans (by omega) (le_foldl_max l (max x a))
/-- an order of what comes from r -/
theorem order_book {F n : Nat} {b : List Rule} {r : List Nat} {m : Mu} {ks : List (List Nat)} (hp : ∀ p ∈ b, IsRule p) (hl : b.length ≤ 8) (hr : IsRow r) (hrl : r.length ≤ 6) (hF : big < F) (hn : ks.Nodup) (hk : ∀ k, k ∈ ks ↔ Reach b r k) :
    ∃ found : List (List Nat), Kahn ks (stepsL b) found [] ∧ callN GT F (n + 1) 13 [.d (.dict (kvF (toldV (stepsL b)) ks))] m = .ok (if found.length = ks.length then .list (found.map rD) else .none) m :=
  order_in_eq (c := r.length) hn (fun k h t ht => (hk t).mpr (((hk k).mp h).step ht)) (fun k _ => (stepsL_up b k).nodup lo_R) (len_reach hp hr hrl hn fun k h => (hk k).mp h) (fun k h => ((hk k).mp h).len) hF
theorem order_falls {F n : Nat} {b : List Rule} {r : List Nat} {m : Mu} {ks : List (List Nat)} (hp : ∀ p ∈ b, IsRule p) (hl : b.length ≤ 8) (hr : IsRow r) (hrl : r.length ≤ 6) (hF : big < F) (hn : ks.Nodup) (hk : ∀ k, k ∈ ks ↔ Reach b r k)
    (f : List Nat → Nat) (hf : ∀ k, Reach b r k → ∀ t ∈ stepsL b k, f t < f k) :
    ∃ found : List (List Nat), found.Nodup ∧ (∀ k, k ∈ found ↔ Reach b r k) ∧ (∀ p x q, found = p ++ x :: q → ∀ t ∈ stepsL b x, t ∈ p) ∧ callN GT F (n + 1) 13 [.d (.dict (kvF (toldV (stepsL b)) ks))] m = .ok (.list (found.map rD)) m := by
  obtain ⟨found, K, e⟩ := order_book (n := n) (m := m) hp hl hr hrl hF hn hk
  have ha := kahn_all K (fun k h t ht => (hk t).mpr (((hk k).mp h).step ht)) f fun k h => hf k ((hk k).mp h)
  refine ⟨found, K.nf, fun k => ⟨fun h => (hk k).mp (K.sf k h), fun h => ha k ((hk k).mpr h)⟩, K.top, ?_⟩
  have h1 := nodup_sub_len K.nf K.sf
  have h2 := nodup_sub_len hn ha
  rw [e, if_pos (by omega)]
theorem goes_on_falls {F n : Nat} {b : List Rule} {r : List Nat} {m : Mu} (hB : IsBook b) (hl : b.length ≤ 8) (hr : IsRow r) (hrl : r.length ≤ 6) (hF : big < F) (f : List Nat → Nat) (hf : ∀ k, Reach b r k → ∀ t ∈ stepsL b k, f t < f k) :
    callN GT F (n + 6) 14 [.d (bD b), .d (rD r)] m = .ok (.bool false) m := by
  obtain ⟨ks, ⟨hn, hk⟩, e1⟩ := come_in_eq (n := n + 2) (m := m) hB.rule hl hr hrl hF
  obtain ⟨found, _, _, _, e2⟩ := order_falls (n := n + 4) (m := m) hB.rule hl hr hrl hF hn hk f hf
  refine W.eq (W_call f_goes_on rfl rfl ?_)
  simp [f_goes_on, b_goes_on, startS, slOf, need_both_eq hB hl hr hrl, e1, e2]
theorem longest_le {F n : Nat} {b : List Rule} {r : List Nat} {m : Mu} (hB : IsBook b) (hl : b.length ≤ 8) (hr : IsRow r) (hrl : r.length ≤ 6) (hF : big < F) (f : List Nat → Nat) (hf : ∀ k, Reach b r k → ∀ t ∈ stepsL b k, f t < f k) :
    ∃ v : Nat, v ≤ f r ∧ callN GT F (n + 6) 15 [.d (bD b), .d (rD r)] m = .ok (.int v) m := by
  suffices h : W (callN GT F (n + 6) 15 [.d (bD b), .d (rD r)] m) (fun a m' => (∃ v : Nat, v ≤ f r ∧ a = .int v) ∧ m' = m) by
    obtain ⟨a, ⟨v, hv, rfl⟩, e⟩ := W.get h
    exact ⟨v, hv, e⟩
  obtain ⟨ks, ⟨hn, hk⟩, e1⟩ := come_in_eq (n := n + 2) (m := m) hB.rule hl hr hrl hF
  obtain ⟨found, hfn, hfm, htop, e2⟩ := order_falls (n := n + 4) (m := m) hB.rule hl hr hrl hF hn hk f hf
  obtain ⟨A, hA, hA1⟩ : ∃ A : Nat, A = 46656 ∧ A + 200 ≤ big := ⟨46656, rfl, by decide⟩
  have hfl : found.length ≤ A := by
    have := len_reach hB.rule hr hrl hfn fun k h => (hfm k).mp h
    omega
  refine W_call f_longest rfl rfl ?_
  simp [f_longest, b_longest, startS, slOf, need_both_eq hB hl hr hrl, e1, e2]
  refine W_for (fl := .c) (m' := m) found rD (fun pre env m' => m = m' ∧ ∃ (g : List Nat → Nat) (x5 x6 : Option Sl), env = [some (.v (bD b)), some (.v (rD r)), some (.v (.dict (kvF (toldV (stepsL b)) ks))), some (.v (.list (found.map rD))), some (.od (kvF (fun k => .int (g k)) pre)), x5, x6] ∧ ∀ k ∈ pre, g k ≤ f k) ?_ ?_ ?_ ?_
  · simp [joinF]
  · exact ⟨rfl, fun _ => 0, none, none, rfl, by simp⟩
  · rintro pre x post env _ K e ⟨rfl, g, x5, x6, rfl, hg⟩ hK _ _
    have hxf : x ∈ found := by rw [e]; simp
    have hx : Reach b r x := (hfm x).mp hxf
    have hxk : x ∈ ks := (hk x).mpr hx
    have hxp : x ∉ pre := fun h => by
      rw [e] at hfn
      exact (List.nodup_append.mp hfn).2.2 x h x (by simp) rfl
    have hpn : pre.Nodup := by rw [e] at hfn; exact (List.nodup_append.mp hfn).1
    have hpl : pre.length ≤ big := by
      have := congrArg List.length e
      simp at this; omega
    have ht := htop pre x post e
    have h160 := len_steps hB.rule hl (show x.length ≤ 6 by have := hx.len; omega)
    have e3 : ixD (.dict (kvF (toldV (stepsL b)) ks)) (rD x) = some (toldV (stepsL b) x) := ix_F hxk
    simp
    rw [ev_comp0 (stepsL b x) rD (fun t => (g t : Int)) iD .c (by simp [e3, joinF]) (by omega)]
    · have e4 : binD .add (.list [.int (-1)]) (.list (((stepsL b x).map fun t => (g t : Int)).map iD)) = some (.list (((-1 : Int) :: (stepsL b x).map fun t => (g t : Int)).map iD), .f) := by
        rw [bin_add_l (by simp only [List.length_map, List.length_cons, List.length_nil]; omega)]; rfl
      have e5 : b1D .max (.list (((-1 : Int) :: (stepsL b x).map fun t => (g t : Int)).map iD)) = some (.int (mxI ((-1 : Int) :: (stepsL b x).map fun t => (g t : Int))), .c) := b1_maxI rfl (by simp)
      have h1 : (-1 : Int) ≤ mxI ((-1 : Int) :: (stepsL b x).map fun t => (g t : Int)) := le_foldl_max _ _
      have h2 : mxI ((-1 : Int) :: (stepsL b x).map fun t => (g t : Int)) ≤ (f x : Int) - 1 := foldl_max_le _ _ (by omega) fun y hy => by
        obtain ⟨t, htm, rfl⟩ := List.mem_map.mp hy
        have := hg t (ht t htm)
        have := hf x hx t htm
        omega
      obtain ⟨w, hw⟩ : ∃ w : Nat, mxI ((-1 : Int) :: (stepsL b x).map fun t => (g t : Int)) + 1 = (w : Int) := ⟨(mxI ((-1 : Int) :: (stepsL b x).map fun t => (g t : Int)) + 1).toNat, by omega⟩
      have e6 : storeIx (.od (kvF (fun k => .int (g k)) pre)) (rD x) (.int w) = some (.od (kvF (fun k => .int ((if k = x then w else g k : Nat) : Int)) (pre ++ [x]))) := by
        rw [storeIx_F hpn hpl, show insK pre x = pre ++ [x] by simp [insK, hxp]]
        refine congrArg (fun z => some (Sl.od z)) (kvF_congr fun k _ => ?_)
        by_cases h : k = x <;> simp [h]
      generalize ((stepsL b x).map fun t => (g t : Int)) = L at *
      simp only [W_ok]
      rw [e4]
      simp only [Out.of_some, W_ok]
      rw [e5]
      simp [hw, ownS, isOwn]
      rw [e6]
      simp
      refine hK _ _ ⟨rfl, fun k => if k = x then w else g k, _, _, rfl, fun k hkp => ?_⟩
      by_cases h : k = x
      · subst h; simp; omega
      · simp [h]
        rcases List.mem_append.mp hkp with h2 | h2
        · exact hg k h2
        · exact absurd (by simpa using h2) h
    · intro t htm
      have e7 : ixD (.dict (kvF (fun k => .int (g k)) pre)) (rD t) = some (.int (g t)) := ix_F (ht t htm)
      simp [e7]
  · rintro env _ ⟨rfl, g, x5, x6, rfl, hg⟩
    have hrf : r ∈ found := (hfm r).mpr .refl
    have e7 : ixD (.dict (kvF (fun k => .int (g k)) found)) (rD r) = some (.int (g r)) := ix_F hrf
    simp [e7]
    exact hg r hrf
end Tw
set_option Elab.async false
set_option linter.all false
set_option maxRecDepth 100000
/-! Inversions of a row, and what a step does to them. -/
namespace Tw
def sm (f : Nat → Nat) : List Nat → Nat
  | [] => 0
  | a :: l => f a + sm f l
theorem sm_append (f : Nat → Nat) : ∀ a b, sm f (a ++ b) = sm f a + sm f b
  | [], b => by simp [sm]
  | x :: a, b => by rw [List.cons_append, sm, sm, sm_append f a b]; omega
theorem sm_perm {f : Nat → Nat} {a b : List Nat} (h : a.Perm b) : sm f a = sm f b := by
  induction h with
  | nil => rfl
  | cons x _ ih => rw [sm, sm, ih]
  | swap x y l => simp only [sm]; omega
  | trans _ _ h1 h2 => exact h1.trans h2
theorem sm_add (f g : Nat → Nat) : ∀ l, sm (fun x => f x + g x) l = sm f l + sm g l
  | [] => rfl
  | a :: l => by simp only [sm]; rw [sm_add f g l]; omega
theorem sm_congr {f g : Nat → Nat} : ∀ {l : List Nat}, (∀ x ∈ l, f x = g x) → sm f l = sm g l
  | [], _ => rfl
  | a :: l, h => by rw [sm, sm, h a (by simp), sm_congr fun x hx => h x (by simp [hx])]
theorem sm_le {f g : Nat → Nat} : ∀ {l : List Nat}, (∀ x ∈ l, f x ≤ g x) → sm f l ≤ sm g l
  | [], _ => Nat.le_refl _
  | a :: l, h => by
    have := sm_le (f := f) (g := g) (l := l) fun x hx => h x (by simp [hx])
    have := h a (by simp)
    rw [sm, sm]; omega
theorem sm_zero : ∀ l, sm (fun _ => 0) l = 0
  | [] => rfl
  | a :: l => by rw [sm, sm_zero l]
theorem sm_map (f g : Nat → Nat) : ∀ l, sm f (l.map g) = sm (fun x => f (g x)) l
  | [] => rfl
  | a :: l => by rw [List.map_cons, sm, sm, sm_map f g l]
theorem sm_swap (w : Nat → Nat → Nat) (b : List Nat) : ∀ a : List Nat, sm (fun i => sm (w i) b) a = sm (fun j => sm (fun i => w i j) a) b
  | [] => by simp only [sm]; rw [sm_zero]
  | x :: a => by
    rw [sm, sm_swap w b a, ← sm_add]; rfl
def wI (r : List Nat) (i j : Nat) : Nat := if i < j ∧ r.getD j 0 < r.getD i 0 then 1 else 0
/-- how often a larger number stands ahead of a smaller one -/
def invL (r : List Nat) : Nat := sm (fun i => sm (wI r i) (List.range r.length)) (List.range r.length)
theorem idx_map (l : List Nat) : (List.range l.length).map (fun a => l.getD a 0) = l := by
  refine List.ext_getElem? fun i => ?_
  by_cases h : i < l.length
  · simp [h, List.getD]
  · simp [h]
theorem sm_idx (f : Nat → Nat) (l : List Nat) : sm f l = sm (fun a => f (l.getD a 0)) (List.range l.length) := by
  have := sm_map f (fun a => l.getD a 0) (List.range l.length)
  rw [idx_map] at this
  exact this
theorem ite_iff {P Q : Prop} [Decidable P] [Decidable Q] (h : P ↔ Q) : (if P then 1 else 0 : Nat) = if Q then 1 else 0 := by
  by_cases hp : P
  · rw [if_pos hp, if_pos (h.mp hp)]
  · rw [if_neg hp, if_neg fun hq => hp (h.mpr hq)]
/-- a threshold of a predicate that holds upwards -/
theorem thr (P : Nat → Prop) : ∀ D, (∀ v v', v < v' → v' < D → P v → P v') → ∃ q, q ≤ D ∧ ∀ v, v < D → (P v ↔ q ≤ v)
  | 0, _ => ⟨0, Nat.le_refl _, fun v h => absurd h (Nat.not_lt_zero _)⟩
  | D + 1, h => by
    obtain ⟨q, hq, hv⟩ := thr P D fun v v' h1 h2 => h v v' h1 (by omega)
    by_cases hqD : q < D
    · refine ⟨q, by omega, fun v hvD => ?_⟩
      by_cases e : v = D
      · subst e
        exact ⟨fun _ => by omega, fun _ => h q v hqD (by omega) ((hv q hqD).mpr (Nat.le_refl _))⟩
      · exact hv v (by omega)
    · have hqe : q = D := by omega
      by_cases hp : P D
      · refine ⟨D, by omega, fun v hvD => ?_⟩
        by_cases e : v = D
        · subst e; exact ⟨fun _ => Nat.le_refl _, fun _ => hp⟩
        · rw [← hqe]; exact hv v (by omega)
      · refine ⟨D + 1, Nat.le_refl _, fun v hvD => ?_⟩
        by_cases e : v = D
        · subst e; exact ⟨fun hh => absurd hh hp, fun hh => by omega⟩
        · have := hv v (by omega)
          exact ⟨fun hh => by have := this.mp hh; omega, fun hh => by omega⟩
def cA (s : List Nat) (pl q : Nat) : Nat := sm (fun a => if a < pl ∧ q ≤ s.getD a 0 then 1 else 0) (List.range s.length)
def cB (s : List Nat) (pl q : Nat) : Nat := sm (fun a => if pl ≤ a ∧ s.getD a 0 < q then 1 else 0) (List.range s.length)
/-- r shows the ranks s of the values v at the places l -/
structure Shows (r l s : List Nat) (v : Nat → Nat) (D : Nat) : Prop where
  up : l.Pairwise (· < ·)
  lt : ∀ x ∈ l, x < r.length
  len : s.length = l.length
  at' : ∀ a, a < l.length → r.getD (l.getD a 0) 0 = v (s.getD a 0)
  sD : ∀ a, a < l.length → s.getD a 0 < D
  mono : ∀ i j, i < j → j < D → v i < v j
theorem Shows.lt_iff {r l s : List Nat} {v : Nat → Nat} {D : Nat} (h : Shows r l s v D) {a b : Nat} (ha : a < l.length) (hb : b < l.length) : r.getD (l.getD a 0) 0 < r.getD (l.getD b 0) 0 ↔ s.getD a 0 < s.getD b 0 := by
  rw [h.at' a ha, h.at' b hb]
  have h1 := h.sD a ha
  have h2 := h.sD b hb
  rcases Nat.lt_trichotomy (s.getD a 0) (s.getD b 0) with q | q | q
  · exact ⟨fun _ => q, fun _ => h.mono _ _ q h2⟩
  · rw [q]
    exact ⟨fun x => absurd x (Nat.lt_irrefl _), fun x => absurd x (Nat.lt_irrefl _)⟩
  · have := h.mono _ _ q h1
    exact ⟨fun x => by omega, fun x => by omega⟩
theorem idx_lt {l : List Nat} (hp : l.Pairwise (· < ·)) {a b : Nat} (ha : a < l.length) (hb : b < l.length) : l.getD a 0 < l.getD b 0 ↔ a < b := by
  rcases Nat.lt_trichotomy a b with q | q | q
  · exact ⟨fun _ => q, fun _ => lt_getD hp q hb⟩
  · rw [q]
    exact ⟨fun x => absurd x (Nat.lt_irrefl _), fun x => absurd x (Nat.lt_irrefl _)⟩
  · have := lt_getD hp q ha
    exact ⟨fun x => by omega, fun x => by omega⟩
theorem Shows.inner {r l s : List Nat} {v : Nat → Nat} {D : Nat} (h : Shows r l s v D) : sm (fun i => sm (wI r i) l) l = invL s := by
  have e : ∀ f : Nat → Nat, sm f l = sm (fun a => f (l.getD a 0)) (List.range l.length) := fun f => sm_idx f l
  rw [e, invL, h.len]
  refine sm_congr fun a ha => ?_
  rw [e]
  refine sm_congr fun b hb => ?_
  have ha := List.mem_range.mp ha
  have hb := List.mem_range.mp hb
  unfold wI
  exact ite_iff (by rw [idx_lt h.up ha hb, h.lt_iff hb ha])
/-- what a place outside of l adds -/
theorem Shows.outer {r l s : List Nat} {v : Nat → Nat} {D : Nat} (h : Shows r l s v D) {i x pl q q' : Nat} (hx : r.getD i 0 = x) (hi : i ∉ l)
    (hpl : ∀ a, a < l.length → (¬ l.getD a 0 < i ↔ pl ≤ a)) (hq : ∀ k, k < D → (x < v k ↔ q ≤ k)) (hq' : ∀ k, k < D → (¬ v k < x ↔ q' ≤ k)) :
    sm (fun k => wI r k i + wI r i k) l = cA s pl q + cB s pl q' := by
  have e : ∀ f : Nat → Nat, sm f l = sm (fun a => f (l.getD a 0)) (List.range l.length) := fun f => sm_idx f l
  rw [e, cA, cB, h.len, ← sm_add]
  refine sm_congr fun a ha => ?_
  have ha := List.mem_range.mp ha
  have h1 := hpl a ha
  have h2 := hq _ (h.sD a ha)
  have h3 := hq' _ (h.sD a ha)
  have h4 : l.getD a 0 ≠ i := fun e => hi (e ▸ mem_getD ha)
  unfold wI
  rw [h.at' a ha, hx]
  have e1 : (l.getD a 0 < i ∧ x < v (s.getD a 0)) ↔ (a < pl ∧ q ≤ s.getD a 0) := by
    rw [h2]
    exact ⟨fun ⟨u, w⟩ => ⟨by have : ¬ pl ≤ a := fun z => (h1.mpr z) u
                             omega, w⟩, fun ⟨u, w⟩ => ⟨Classical.byContradiction fun z => by have := h1.mp z; omega, w⟩⟩
  have e2 : (i < l.getD a 0 ∧ v (s.getD a 0) < x) ↔ (pl ≤ a ∧ s.getD a 0 < q') := by
    constructor
    · rintro ⟨u, w⟩
      exact ⟨h1.mp (by omega), Nat.lt_of_not_le fun z => (h3.mpr z) w⟩
    · rintro ⟨u, w⟩
      refine ⟨?_, Classical.byContradiction fun z => by have := h3.mp z; omega⟩
      have := h1.mpr u
      omega
  rw [ite_iff e1, ite_iff e2]
/-- the places that a step leaves -/
def outs (n : Nat) (l : List Nat) : List Nat := (List.range n).filter fun i => !decide (i ∈ l)
theorem range_split {n : Nat} {l : List Nat} (hp : l.Pairwise (· < ·)) (hl : ∀ x ∈ l, x < n) : (List.range n).Perm (l ++ outs n l) := by
  refine (List.perm_ext_iff_of_nodup List.nodup_range ?_).mpr fun x => ?_
  · rw [List.nodup_append]
    refine ⟨hp.imp fun h => Nat.ne_of_lt h, (List.nodup_range).filter _, fun a ha b hb e => ?_⟩
    subst e
    have := (List.mem_filter.mp hb).2
    simp [ha] at this
  · simp only [outs, List.mem_append, List.mem_filter, List.mem_range, Bool.not_eq_true', decide_eq_false_iff_not]
    constructor
    · intro h
      by_cases hx : x ∈ l
      · exact .inl hx
      · exact .inr ⟨h, hx⟩
    · rintro (h | h)
      · exact hl x h
      · exact h.1
theorem inv_split {r l : List Nat} (hp : l.Pairwise (· < ·)) (hl : ∀ x ∈ l, x < r.length) :
    invL r = sm (fun i => sm (wI r i) l) l + sm (fun i => sm (fun k => wI r k i + wI r i k) l) (outs r.length l) + sm (fun i => sm (wI r i) (outs r.length l)) (outs r.length l) := by
  have h := range_split hp hl
  unfold invL
  rw [sm_perm h, sm_congr (g := fun i => sm (wI r i) l + sm (wI r i) (outs r.length l)) fun i _ => by rw [sm_perm h, sm_append]]
  rw [sm_append, sm_add, sm_add]
  have e : sm (fun i => sm (fun k => wI r k i + wI r i k) l) (outs r.length l) = sm (fun i => sm (wI r i) (outs r.length l)) l + sm (fun i => sm (wI r i) l) (outs r.length l) := by
    rw [sm_swap (fun i j => wI r i j) (outs r.length l) l, ← sm_add]
    exact sm_congr fun i _ => sm_add _ _ _
  rw [e]; omega
theorem Fit.shows {r l : List Nat} {p : Rule} (f : Fit r l p) : Shows r l p.1 (rankV r l) (dist (pk r l)).length :=
  ⟨f.up, f.lt, f.len.symm, fun a ha => (before_in f ha).1, fun a ha => (before_in f ha).2, fun i j hij hj => rankV_mono hij hj⟩
theorem Fit.shows2 {r l : List Nat} {p : Rule} (f : Fit r l p) : Shows (put r l p.2) l p.2 (rankV r l) (dist (pk r l)).length :=
  ⟨f.up, fun x hx => by rw [length_put]; exact f.lt x hx, by rw [f.rule.len, f.len], fun a ha => put_in f ha, fun a ha => after_lt f ha, fun i j hij hj => rankV_mono hij hj⟩
theorem len_dist (l : List Nat) : (dist l).length ≤ l.length := by
  unfold dist
  rw [length_sortN]; exact length_dd_le l
/-- a step with a rule that lowers what is within and raises nothing around -/
theorem inv_step {r l : List Nat} {p : Rule} (f : Fit r l p) : ∃ (pl q q' : Nat → Nat), (∀ i, pl i < 5 ∧ q i < 5 ∧ q' i < 5) ∧ ∃ z : Nat,
    invL r = invL p.1 + sm (fun i => cA p.1 (pl i) (q i) + cB p.1 (pl i) (q' i)) (outs r.length l) + z ∧
    invL (put r l p.2) = invL p.2 + sm (fun i => cA p.2 (pl i) (q i) + cB p.2 (pl i) (q' i)) (outs r.length l) + z := by
  have h4 := f.rule.hi
  have hl := f.len
  have hD := len_dist (pk r l)
  rw [length_pk] at hD
  have g1 : ∀ i : Nat, ∃ pl, pl < 5 ∧ ∀ a, a < l.length → (¬ l.getD a 0 < i ↔ pl ≤ a) := fun i => by
    obtain ⟨q, h1, h2⟩ := thr (fun a => ¬ l.getD a 0 < i) l.length fun a b hab hb h => by
      have := lt_getD f.up hab hb
      omega
    exact ⟨q, by omega, h2⟩
  have g2 : ∀ i : Nat, ∃ q, q < 5 ∧ ∀ k, k < (dist (pk r l)).length → (r.getD i 0 < rankV r l k ↔ q ≤ k) := fun i => by
    obtain ⟨q, h1, h2⟩ := thr (fun k => r.getD i 0 < rankV r l k) (dist (pk r l)).length fun a b hab hb h => by
      have := rankV_mono hab hb
      omega
    exact ⟨q, by omega, h2⟩
  have g3 : ∀ i : Nat, ∃ q, q < 5 ∧ ∀ k, k < (dist (pk r l)).length → (¬ rankV r l k < r.getD i 0 ↔ q ≤ k) := fun i => by
    obtain ⟨q, h1, h2⟩ := thr (fun k => ¬ rankV r l k < r.getD i 0) (dist (pk r l)).length fun a b hab hb h => by
      have := rankV_mono hab hb
      omega
    exact ⟨q, by omega, h2⟩
  obtain ⟨pl, hpl⟩ := Classical.axiomOfChoice g1
  obtain ⟨q, hq⟩ := Classical.axiomOfChoice g2
  obtain ⟨q', hq'⟩ := Classical.axiomOfChoice g3
  refine ⟨pl, q, q', fun i => ⟨(hpl i).1, (hq i).1, (hq' i).1⟩, sm (fun i => sm (wI r i) (outs r.length l)) (outs r.length l), ?_, ?_⟩
  · rw [inv_split f.up f.lt, f.shows.inner]
    have : sm (fun i => sm (fun k => wI r k i + wI r i k) l) (outs r.length l) = sm (fun i => cA p.1 (pl i) (q i) + cB p.1 (pl i) (q' i)) (outs r.length l) := sm_congr fun i hi => by
      have hi2 : i ∉ l := by have := (List.mem_filter.mp hi).2; simpa using this
      exact f.shows.outer rfl hi2 (hpl i).2 (hq i).2 (hq' i).2
    rw [this]
  · rw [inv_split f.up (fun x hx => by rw [length_put]; exact f.lt x hx), f.shows2.inner, length_put]
    have : sm (fun i => sm (fun k => wI (put r l p.2) k i + wI (put r l p.2) i k) l) (outs r.length l) = sm (fun i => cA p.2 (pl i) (q i) + cB p.2 (pl i) (q' i)) (outs r.length l) := sm_congr fun i hi => by
      have hi2 : i ∉ l := by have := (List.mem_filter.mp hi).2; simpa using this
      exact f.shows2.outer (put_out hi2) hi2 (hpl i).2 (hq i).2 (hq' i).2
    rw [this]
    have e2 : sm (fun i => sm (wI (put r l p.2) i) (outs r.length l)) (outs r.length l) = sm (fun i => sm (wI r i) (outs r.length l)) (outs r.length l) := sm_congr fun i hi => sm_congr fun j hj => by
      have hi2 : i ∉ l := by have := (List.mem_filter.mp hi).2; simpa using this
      have hj2 : j ∉ l := by have := (List.mem_filter.mp hj).2; simpa using this
      unfold wI
      rw [put_out hi2, put_out hj2]
    rw [e2]
/-- a rule that lowers -/
def falls (a b : List Nat) : Bool := decide (invL b < invL a) && (List.range 5).all fun pl => (List.range 5).all fun q => decide (cA b pl q ≤ cA a pl q) && decide (cB b pl q ≤ cB a pl q)
theorem falls_step {r l : List Nat} {p : Rule} (f : Fit r l p) (h : falls p.1 p.2 = true) : invL (put r l p.2) < invL r := by
  obtain ⟨pl, q, q', hb, z, e1, e2⟩ := inv_step f
  unfold falls at h
  simp only [Bool.and_eq_true, decide_eq_true_eq, List.all_eq_true, List.mem_range] at h
  obtain ⟨h1, h2⟩ := h
  have : sm (fun i => cA p.2 (pl i) (q i) + cB p.2 (pl i) (q' i)) (outs r.length l) ≤ sm (fun i => cA p.1 (pl i) (q i) + cB p.1 (pl i) (q' i)) (outs r.length l) := sm_le fun i _ => by
    obtain ⟨b1, b2, b3⟩ := hb i
    have := (h2 _ b1 _ b2).1
    have := (h2 _ b1 _ b3).2
    omega
  omega
theorem rises_step {r l : List Nat} {p : Rule} (f : Fit r l p) (h : falls p.2 p.1 = true) : invL r < invL (put r l p.2) := by
  obtain ⟨pl, q, q', hb, z, e1, e2⟩ := inv_step f
  unfold falls at h
  simp only [Bool.and_eq_true, decide_eq_true_eq, List.all_eq_true, List.mem_range] at h
  obtain ⟨h1, h2⟩ := h
  have : sm (fun i => cA p.1 (pl i) (q i) + cB p.1 (pl i) (q' i)) (outs r.length l) ≤ sm (fun i => cA p.2 (pl i) (q i) + cB p.2 (pl i) (q' i)) (outs r.length l) := sm_le fun i _ => by
    obtain ⟨b1, b2, b3⟩ := hb i
    have := (h2 _ b1 _ b2).1
    have := (h2 _ b1 _ b3).2
    omega
  omega
/-! ### how many -/
def triN (n : Nat) : Nat := sm (fun i => sm (fun j => if i < j then 1 else 0) (List.range n)) (List.range n)
theorem inv_tri (r : List Nat) : invL r ≤ triN r.length := sm_le fun i _ => sm_le fun j _ => by
  unfold wI
  by_cases h : i < j
  · rw [if_pos h]; split <;> omega
  · rw [if_neg h, if_neg fun x => h x.1]; exact Nat.le_refl _
theorem tri_le : ∀ n ∈ List.range 13, triN n ≤ n * (n - 1) / 2 := by decide
theorem drop_filter (p : Nat → Bool) : ∀ (r : List Nat) (d : Nat), ((r.drop d).filter p).length = sm (fun j => if d ≤ j ∧ p (r.getD j 0) = true then 1 else 0) (List.range r.length)
  | [], d => by simp [sm]
  | a :: r, 0 => by
    have ih := drop_filter p r 0
    rw [List.length_cons, List.range_succ_eq_map, sm, sm_map]
    simp only [List.drop_zero, Nat.zero_le, true_and] at ih ⊢
    by_cases h : p a = true
    · rw [List.filter_cons_of_pos h, List.length_cons, ih]; simp [h]; omega
    · rw [List.filter_cons_of_neg h, ih]; simp [h]
  | a :: r, d + 1 => by
    have ih := drop_filter p r d
    rw [List.length_cons, List.range_succ_eq_map, sm, sm_map, List.drop_succ_cons, ih]
    simp
/-- as the law counts -/
def invK (r : List Nat) (k : Nat) : Nat := ((r.drop (k + 1)).filter fun x => decide (x < r.getD k 0)).length
theorem inv_law (r : List Nat) : sm (invK r) (List.range r.length) = invL r := sm_congr fun k _ => by
  rw [invK, drop_filter]
  refine sm_congr fun j _ => ?_
  unfold wI
  simp [Nat.succ_le_iff]
end Tw
set_option Elab.async false
set_option linter.all false
set_option maxRecDepth 100000
set_option maxHeartbeats 4000000
/-! Corner sums of one sign: a step moves the inversions one way. -/
namespace Tw
open PySem
/-! the same counts, quick for the kernel -/
/-- of the first pl numbers those that are at least q -/
def qA : List Nat → Nat → Nat → Nat
  | [], _, _ => 0
  | x :: s, pl, q => bif Nat.beq pl 0 then 0 else (bif Nat.ble q x then Nat.succ (qA s (pl - 1) q) else qA s (pl - 1) q)
/-- of the numbers behind the first pl those that are below q -/
def qB : List Nat → Nat → Nat → Nat
  | [], _, _ => 0
  | x :: s, pl, q => bif Nat.beq pl 0 then (bif Nat.ble q x then qB s 0 q else Nat.succ (qB s 0 q)) else qB s (pl - 1) q
theorem qA_eq : ∀ (s : List Nat) (pl q : Nat), qA s pl q = cA s pl q
  | [], _, _ => rfl
  | x :: s, 0, q => by
    show 0 = _
    rw [cA, sm_congr (g := fun _ => 0) fun a _ => by simp, sm_zero]
  | x :: s, pl + 1, q => by
    have ih := qA_eq s pl q
    show (bif Nat.ble q x then Nat.succ (qA s pl q) else qA s pl q) = _
    rw [cA, List.length_cons, List.range_succ_eq_map, sm, sm_map, ih, cA]
    have e : sm (fun a => if a + 1 < pl + 1 ∧ q ≤ (x :: s).getD (a + 1) 0 then 1 else 0) (List.range s.length) = sm (fun a => if a < pl ∧ q ≤ s.getD a 0 then 1 else 0) (List.range s.length) := sm_congr fun a _ => by simp
    have e2 : sm (fun a => if Nat.succ a < pl + 1 ∧ q ≤ (x :: s).getD (Nat.succ a) 0 then 1 else 0) (List.range s.length) = sm (fun a => if a < pl ∧ q ≤ s.getD a 0 then 1 else 0) (List.range s.length) := e
    rw [e2]
    by_cases h : q ≤ x
    · have : Nat.ble q x = true := Nat.ble_eq.mpr h
      simp [this, h]; omega
    · have : Nat.ble q x = false := by
        cases h2 : Nat.ble q x with
        | true => exact absurd (Nat.ble_eq.mp h2) h
        | false => rfl
      simp [this, h]
theorem qB_eq : ∀ (s : List Nat) (pl q : Nat), qB s pl q = cB s pl q
  | [], _, _ => rfl
  | x :: s, 0, q => by
    have ih := qB_eq s 0 q
    show (bif Nat.ble q x then qB s 0 q else Nat.succ (qB s 0 q)) = _
    rw [cB, List.length_cons, List.range_succ_eq_map, sm, sm_map, ih, cB]
    have e2 : sm (fun a => if 0 ≤ Nat.succ a ∧ (x :: s).getD (Nat.succ a) 0 < q then 1 else 0) (List.range s.length) = sm (fun a => if 0 ≤ a ∧ s.getD a 0 < q then 1 else 0) (List.range s.length) := sm_congr fun a _ => by simp
    rw [e2]
    by_cases h : q ≤ x
    · have : Nat.ble q x = true := Nat.ble_eq.mpr h
      have h2 : ¬ x < q := by omega
      simp [this, h2]
    · have : Nat.ble q x = false := by
        cases h2 : Nat.ble q x with
        | true => exact absurd (Nat.ble_eq.mp h2) h
        | false => rfl
      have h2 : x < q := by omega
      simp [this, h2]; omega
  | x :: s, pl + 1, q => by
    have ih := qB_eq s pl q
    show qB s pl q = _
    rw [cB, List.length_cons, List.range_succ_eq_map, sm, sm_map, ih, cB]
    have e2 : sm (fun a => if pl + 1 ≤ Nat.succ a ∧ (x :: s).getD (Nat.succ a) 0 < q then 1 else 0) (List.range s.length) = sm (fun a => if pl ≤ a ∧ s.getD a 0 < q then 1 else 0) (List.range s.length) := sm_congr fun a _ => by simp
    rw [e2]
    simp
/-- inversions: below each number behind it -/
def qI : List Nat → Nat
  | [] => 0
  | x :: s => Nat.add (qB s 0 x) (qI s)
theorem qI_eq : ∀ s : List Nat, qI s = invL s
  | [] => rfl
  | x :: s => by
    have ih := qI_eq s
    show qB s 0 x + qI s = _
    rw [ih, qB_eq]
    unfold invL
    rw [List.length_cons, List.range_succ_eq_map, sm, sm_map]
    have e1 : sm (wI (x :: s) 0) (0 :: (List.range s.length).map Nat.succ) = cB s 0 x := by
      rw [sm, sm_map, cB]
      have : wI (x :: s) 0 0 = 0 := by simp [wI]
      rw [this, Nat.zero_add]
      exact sm_congr fun a _ => by simp [wI]
    have e2 : sm (fun a => sm (wI (x :: s) (Nat.succ a)) (0 :: (List.range s.length).map Nat.succ)) (List.range s.length) = sm (fun a => sm (wI s a) (List.range s.length)) (List.range s.length) := sm_congr fun a _ => by
      rw [sm, sm_map]
      have : wI (x :: s) (Nat.succ a) 0 = 0 := by simp [wI]
      rw [this, Nat.zero_add]
      exact sm_congr fun c _ => by simp [wI]
    rw [e1, e2]
def all5 (f : Nat → Bool) : Bool := f 0 && (f 1 && (f 2 && (f 3 && f 4)))
theorem all5_iff {f : Nat → Bool} (h : all5 f = true) : ∀ k < 5, f k = true := by
  unfold all5 at h
  simp only [Bool.and_eq_true] at h
  obtain ⟨h0, h1, h2, h3, h4⟩ := h
  intro k hk
  match k, hk with
  | 0, _ => exact h0
  | 1, _ => exact h1
  | 2, _ => exact h2
  | 3, _ => exact h3
  | 4, _ => exact h4
def fallsQ (a b : List Nat) : Bool := Nat.blt (qI b) (qI a) && all5 fun pl => all5 fun q => Nat.ble (qA b pl q) (qA a pl q) && Nat.ble (qB b pl q) (qB a pl q)
theorem fallsQ_ok {a b : List Nat} (h : fallsQ a b = true) : falls a b = true := by
  unfold fallsQ at h
  simp only [Bool.and_eq_true] at h
  obtain ⟨h1, h2⟩ := h
  unfold falls
  simp only [Bool.and_eq_true, decide_eq_true_eq, List.all_eq_true, List.mem_range]
  refine ⟨?_, fun pl hpl q hq => ?_⟩
  · have := Nat.ble_eq.mp h1
    rw [qI_eq, qI_eq] at this
    exact this
  · have h3 := all5_iff (all5_iff h2 pl hpl) q hq
    simp only [Bool.and_eq_true] at h3
    have h4 := Nat.ble_eq.mp h3.1
    have h5 := Nat.ble_eq.mp h3.2
    rw [qA_eq, qA_eq] at h4
    rw [qB_eq, qB_eq] at h5
    exact ⟨h4, h5⟩
/-- the signs of the corner sums, quick: the counts of p.2 and of p.1 behind each place -/
def upsQ (p : Rule) : Bool := (Tw.cs p).flatten.all fun x => decide (0 ≤ x)
def dnsQ (p : Rule) : Bool := (Tw.cs p).flatten.all fun x => decide (x ≤ 0)
def fallsC (p : Rule) : Bool := (!upsQ p || fallsQ p.1 p.2) && (!dnsQ p || fallsQ p.2 p.1)
theorem falls_all : rules4.all fallsC = true := by decide +kernel
theorem IsRule.falls {p : Rule} (h : IsRule p) : ((∀ x ∈ (Tw.cs p).flatten, 0 ≤ x) → Tw.falls p.1 p.2 = true) ∧ ((∀ x ∈ (Tw.cs p).flatten, x ≤ 0) → Tw.falls p.2 p.1 = true) := by
  have := List.all_eq_true.mp falls_all p (mem_rules4.mpr h)
  simp only [fallsC, upsQ, dnsQ, Bool.and_eq_true, Bool.or_eq_true, Bool.not_eq_true', List.all_eq_false, decide_eq_true_eq] at this
  obtain ⟨h1, h2⟩ := this
  refine ⟨fun h => ?_, fun h => ?_⟩
  · rcases h1 with ⟨x, hx, hx2⟩ | h1
    · exact absurd (h x hx) hx2
    · exact fallsQ_ok h1
  · rcases h2 with ⟨x, hx, hx2⟩ | h2
    · exact absurd (h x hx) hx2
    · exact fallsQ_ok h2
end Tw
set_option Elab.async false
set_option linter.all false
set_option maxRecDepth 100000
set_option maxHeartbeats 4000000
/-! law k06 -/
namespace Tw
open PySem
theorem Cl_06 (ns : List Int) (b c : Int) : Cl (some (ns, [0, b, c])) := ⟨ns, 0, b, c, rfl⟩
theorem law_W06 {F n : Nat} {fn : Fn} {ns : List Int} (h : W (exs (callN GT F n) F fn.body (some (.scr ns) :: List.replicate (fn.nl - 1) none) none) (fun r _ => ∃ e, r = (.ret (.bool true), e))) : ∃ m, lawN GT F n fn ns = .ok (.bool true) m := by
  obtain ⟨r, m, e, env, rfl⟩ := h
  exact ⟨m, by rw [lawN, e]; rfl⟩
theorem pick_W {F n : Nat} {m : Mu} {xs : List PyData} (hm : Cl m) (h0 : 0 < xs.length) (h1 : xs.length < 1000000) {Q : PyData → Mu → Prop} (hQ : ∀ (i : Nat) (h : i < xs.length) m', Cl m' → Q xs[i] m') : W (callN GT F (n + 2) 39 [.cell, .d (.list xs)] m) Q := by
  refine W_call f_law_pick rfl rfl ?_
  simp [f_law_pick, b_law_pick, startS, slOf]
  refine taken_W hm h0 (by omega) fun v m1 hv hm1 => ?_
  simp [ix_l hv]
  exact ⟨hm.same hm1, hQ v hv m1 hm1⟩
theorem intsOf_iD : ∀ l : List Int, intsOf (l.map iD) = some l
  | [] => rfl
  | a :: l => by
    show (intsOf (l.map iD)).map (a :: ·) = _
    rw [intsOf_iD l]; rfl
theorem b1_sumI {l : List Int} : b1D .sum (.list (l.map iD)) = some (.int (sumI l), .c) := by
  show (intsOf (l.map iD)).map (fun is => (PyData.int (sumI is), Fl.c)) = _
  rw [intsOf_iD]; rfl
theorem sumI_sm (f : Nat → Nat) : ∀ l : List Nat, sumI (l.map fun k => (f k : Int)) = (sm f l : Int)
  | [] => rfl
  | a :: l => by
    rw [List.map_cons, sumI, sumI_sm f l, sm]; omega
theorem mxI_mem {l : List Int} (h : l ≠ []) : mxI l ∈ l := by
  have key : ∀ (l : List Int) (x : Int), l.foldl max x = x ∨ l.foldl max x ∈ l := by
    intro l
    induction l with
    | nil => intro x; exact .inl rfl
    | cons a l ih =>
      intro x
      rcases ih (max x a) with h | h
      · rw [List.foldl_cons, h]
        rcases Int.le_total x a with q | q
        · right; rw [Int.max_eq_right q]; simp
        · left; rw [Int.max_eq_left q]
      · right; rw [List.foldl_cons]; simp [h]
  cases l with
  | nil => exact absurd rfl h
  | cons a l =>
    show l.foldl max a ∈ _
    rcases key l a with h | h
    · rw [h]; simp
    · simp [h]
theorem mnI_mem {l : List Int} (h : l ≠ []) : mnI l ∈ l := by
  have key : ∀ (l : List Int) (x : Int), l.foldl min x = x ∨ l.foldl min x ∈ l := by
    intro l
    induction l with
    | nil => intro x; exact .inl rfl
    | cons a l ih =>
      intro x
      rcases ih (min x a) with h | h
      · rw [List.foldl_cons, h]
        rcases Int.le_total x a with q | q
        · left; rw [Int.min_eq_left q]
        · right; rw [Int.min_eq_right q]; simp
      · right; rw [List.foldl_cons]; simp [h]
  cases l with
  | nil => exact absurd rfl h
  | cons a l =>
    show l.foldl min a ∈ _
    rcases key l a with h | h
    · rw [h]; simp
    · simp [h]
theorem mnI_le : ∀ {l : List Int}, ∀ x ∈ l, mnI l ≤ x := by
  have key : ∀ (l : List Int) (x : Int), l.foldl min x ≤ x ∧ ∀ y ∈ l, l.foldl min x ≤ y := by
    intro l
    induction l with
    | nil => intro x; exact ⟨Int.le_refl x, by simp⟩
    | cons a l ih =>
      intro x
      obtain ⟨h1, h2⟩ := ih (min x a)
      rw [List.foldl_cons]
      refine ⟨by omega, fun y hy => ?_⟩
      rcases List.mem_cons.mp hy with rfl | hy
      · omega
      · exact h2 y hy
  intro l x hx
  cases l with
  | nil => simp at hx
  | cons a l =>
    obtain ⟨h1, h2⟩ := key l a
    rcases List.mem_cons.mp hx with rfl | hx
    · exact h1
    · exact h2 x hx
theorem le_mxI : ∀ {l : List Int}, ∀ x ∈ l, x ≤ mxI l := by
  have key : ∀ (l : List Int) (x : Int), x ≤ l.foldl max x ∧ ∀ y ∈ l, y ≤ l.foldl max x := by
    intro l
    induction l with
    | nil => intro x; exact ⟨Int.le_refl x, by simp⟩
    | cons a l ih =>
      intro x
      obtain ⟨h1, h2⟩ := ih (max x a)
      rw [List.foldl_cons]
      refine ⟨by omega, fun y hy => ?_⟩
      rcases List.mem_cons.mp hy with rfl | hy
      · omega
      · exact h2 y hy
  intro l x hx
  cases l with
  | nil => simp at hx
  | cons a l =>
    obtain ⟨h1, h2⟩ := key l a
    rcases List.mem_cons.mp hx with rfl | hx
    · exact h1
    · exact h2 x hx
/-- a square book moves the inversions one way -/
theorem square_dir {b : List Rule} (hb : ∀ p ∈ b, IsRule p) (h : isSq b = true) : (∀ k t, t ∈ stepsL b k → invL t < invL k) ∨ (∀ k t, t ∈ stepsL b k → invL k < invL t) := by
  have hm : ∀ p ∈ b, ∀ x ∈ (cs p).flatten, x ∈ allC b := fun p hp x hx => List.mem_flatMap.mpr ⟨p, hp, hx⟩
  simp only [isSq, Bool.or_eq_true, decide_eq_true_eq] at h
  rcases h with h | h
  · left
    intro k t ht
    obtain ⟨p, hp, l, f, rfl⟩ := step_fit hb ht
    exact falls_step f ((hb p hp).falls.1 fun x hx => Int.le_trans h (mnI_le x (hm p hp x hx)))
  · right
    intro k t ht
    obtain ⟨p, hp, l, f, rfl⟩ := step_fit hb ht
    exact rises_step f ((hb p hp).falls.2 fun x hx => Int.le_trans (le_mxI x (hm p hp x hx)) h)
theorem growth_cases {b : List Rule} (h : b ≠ []) : growthS b = "endless" ∨ growthS b = "greater" ∨ (growthS b = "square" ∧ isSq b = true) := by
  unfold growthS
  rw [if_neg h]
  by_cases h1 : waysL b = []
  · exact .inl (if_pos h1)
  · rw [if_neg h1]
    by_cases h2 : isSq b = true
    · exact .inr (.inr ⟨if_pos h2, h2⟩)
    · exact .inr (.inl (if_neg h2))
/-- the law's count of a row's inversions -/
theorem inv_ev {C : Calls} {m : Mu} {r : List Nat} {env : Ev} (hr : r.length ≤ 12) (h11 : env.length = 14) (hg : getS env 11 = some (.v (rD r))) :
    ev C (.b1 .sum (.comp0 (.b1 .len (.comp1 (.var 13) (.n 13) (.val (.sliceFrom (.var 11) (.bin .add (.var 12) (.lit (.int 1))))) (.cmp .lt (.var 13) (.ix (.var 11) (.var 12))) [13])) (.n 12) (.range1 (.b1 .len (.var 11))) [12])) env m = .ok (.int (invL r), .c) m := by
  match env, h11 with
  | [s0, s1, s2, s3, s4, s5, s6, s7, s8, s9, s10, s11, s12, s13], _ =>
  have h11 : s11 = some (.v (rD r)) := by simpa using hg
  subst h11
  have hb : 12 ≤ big := by decide
  rw [ev_b1, ev_comp0 (List.range r.length) nD (fun k => (invK r k : Int)) iD .c (r1 (fl := .c) r.length (by simp) (by omega)) (by simp; omega)]
  · rw [Out.bind_ok, b1_sumI, sumI_sm, inv_law]; rfl
  · intro k hk
    have hk := List.mem_range.mp hk
    simp only [bindG_n, wipeS_cons, wipeS_nil, List.set_cons_succ, List.set_cons_zero, setS_succ, setS_zero, cs0_some, ev_b1]
    rw [ev_comp1 (r.drop (k + 1)) nD (fun x => decide (x < r.getD k 0)) id nD .c (by simp [joinF, ← List.map_drop]) (by simp; omega)]
    · simp [invK, -List.getD_eq_getElem?_getD]
    · intro x _
      simp only [bindG_n, wipeS_cons, wipeS_nil, List.set_cons_succ, List.set_cons_zero, setS_succ, setS_zero, cs1_some, ev_cmp, ev_ix, ev_var, getS_succ, getS_zero, Out.bind_ok, ix_r hk, Option.map_some, Out.of_some, cmp_lt, cs1b_b, keepD_c, keepO_some]
      by_cases h : x < r.getD k 0 <;> simp [h, -List.getD_eq_getElem?_getD]
theorem small6 : ∀ n ∈ List.range 6, smallI (n : Int) = true := by decide
theorem tri_int {v n : Nat} (hn : n ≤ 5) (h : v ≤ n * (n - 1) / 2) : (v : Int) ≤ (n : Int) * ((n : Int) - 1) / 2 := by
  have key : ∀ n ∈ List.range 6, (((n * (n - 1) / 2 : Nat) : Int) ≤ (n : Int) * ((n : Int) - 1) / 2) := by decide
  exact Int.le_trans (Int.ofNat_le.mpr h) (key n (List.mem_range.mpr (by omega)))
theorem ex_lt (n : Nat) : ∃ F, n < F := ⟨n + 1, Nat.lt_succ_self n⟩
end Tw
set_option Elab.async false
set_option linter.all false
set_option maxRecDepth 100000
set_option maxHeartbeats 4000000
namespace Tw
open PySem
theorem last06 {F : Nat} {b : List Rule} {r0 sh : List Nat} {ups : List Int} {m8 : Mu} {x4 x8 x9 x10 x11 x12 x13 : Option Sl} (hb : IsBook b) (hb8 : b.length ≤ 8) (hF : big < F) (hdir : (∀ k t, t ∈ stepsL b k → invL t < invL k) ∨ (∀ k t, t ∈ stepsL b k → invL k < invL t)) (hrow : IsRow sh) (hsh : sh.length ≤ 5) :
    W (exs (callN GT F 20) F (.cons (.ret (.cmp .le (.call 15 (.cons (.var 2) (.cons (.var 5) .nil))) (.bin .fdiv (.bin .mul (.b1 .len (.var 5)) (.bin .sub (.b1 .len (.var 5)) (.lit (.int 1)))) (.lit (.int 2))))) .nil) [none, some .cell, some (.v (bD b)), some (.v (.str "square")), x4, some (.v (rD sh)), some (.v (rD r0)), some (.o (ups.map iD)), x8, x9, x10, x11, x12, x13] m8) (fun r _ => ∃ e, r = (.ret (.bool true), e)) := by
  obtain ⟨v, hv, hcall⟩ : ∃ v : Nat, v ≤ triN sh.length ∧ callN GT F 20 15 [.d (bD b), .d (rD sh)] m8 = .ok (.int v) m8 := by
    rcases hdir with h | h
    · obtain ⟨v, hv, e⟩ := longest_le (n := 14) (m := m8) hb hb8 hrow (show sh.length ≤ 6 by omega) hF invL (fun k _ t ht => h k t ht)
      exact ⟨v, Nat.le_trans hv (inv_tri sh), e⟩
    · obtain ⟨v, hv, e⟩ := longest_le (n := 14) (m := m8) hb hb8 hrow (show sh.length ≤ 6 by omega) hF (fun k => triN sh.length - invL k) (fun k hk t ht => by
        have h1 := h k t ht
        have h2 := inv_tri t
        have h3 : t.length = sh.length := by rw [stepsL_len ht, hk.len]
        rw [h3] at h2
        omega)
      exact ⟨v, Nat.le_trans hv (Nat.sub_le _ _), e⟩
  have htri := tri_le sh.length (List.mem_range.mpr (by omega))
  have hsm : smallI (sh.length : Int) = true := small6 _ (List.mem_range.mpr (by omega))
  have hle := tri_int hsh (Nat.le_trans hv htri)
  have e1 : binD .mul (.int (sh.length : Int)) (.int ((sh.length : Int) - 1)) = some (.int ((sh.length : Int) * ((sh.length : Int) - 1)), .c) := bin_mul_i (.inl hsm)
  have e2 : binD .fdiv (.int ((sh.length : Int) * ((sh.length : Int) - 1))) (.int 2) = some (.int ((sh.length : Int) * ((sh.length : Int) - 1) / 2), .c) := bin_fdiv_i (by decide) (by decide)
  revert hcall
  generalize hE : ([none, some .cell, some (.v (bD b)), some (.v (.str "square")), x4, some (.v (rD sh)), some (.v (rD r0)), some (.o (ups.map iD)), x8, x9, x10, x11, x12, x13] : Ev) = env
  intro hcall
  have g2 : getS env 2 = some (.v (bD b)) := by rw [← hE]; rfl
  have g5 : getS env 5 = some (.v (rD sh)) := by rw [← hE]; rfl
  clear hE
  generalize hC : callN GT F 20 = C at hcall ⊢
  have v5 : Tw.ev C (.var 5) env m8 = .ok (rD sh, .c) m8 := by rw [ev_var, g5]
  have v2 : Tw.ev C (.var 2) env m8 = .ok (bD b, .c) m8 := by rw [ev_var, g2]
  have c5 : isCell env (.var 5) = false := by rw [isCell_var, g5]
  have c2 : isCell env (.var 2) = false := by rw [isCell_var, g2]
  have h1 : Tw.ev C (.b1 .len (.var 5)) env m8 = .ok (.int (sh.length : Int), .c) m8 := by
    rw [ev_b1, v5, Out.bind_ok, b1_len_t, List.length_map, Out.of_some]
  have h2 : Tw.ev C (.bin .sub (.b1 .len (.var 5)) (.lit (.int 1))) env m8 = .ok (.int ((sh.length : Int) - 1), .c) m8 := by
    rw [ev_bin, h1, Out.bind_ok, ev_lit, Out.bind_ok, bin_sub_i, Out.of_some]
  have h3 : Tw.ev C (.bin .mul (.b1 .len (.var 5)) (.bin .sub (.b1 .len (.var 5)) (.lit (.int 1)))) env m8 = .ok (.int ((sh.length : Int) * ((sh.length : Int) - 1)), .c) m8 := by
    rw [ev_bin, h1, Out.bind_ok, h2, Out.bind_ok, e1, Out.of_some]
  have h4 : Tw.ev C (.bin .fdiv (.bin .mul (.b1 .len (.var 5)) (.bin .sub (.b1 .len (.var 5)) (.lit (.int 1)))) (.lit (.int 2))) env m8 = .ok (.int ((sh.length : Int) * ((sh.length : Int) - 1) / 2), .c) m8 := by
    rw [ev_bin, h3, Out.bind_ok, ev_lit, Out.bind_ok, e2, Out.of_some]
  clear e1 e2 h3 h2 h1
  revert h4 hle
  generalize (sh.length : Int) * ((sh.length : Int) - 1) / 2 = z
  generalize (Ex.bin .fdiv (.bin .mul (.b1 .len (.var 5)) (.bin .sub (.b1 .len (.var 5)) (.lit (.int 1)))) (.lit (.int 2))) = X
  intro hle h4
  have hA : evA C (.cons (.var 2) (.cons (.var 5) .nil)) env m8 = .ok [.d (bD b), .d (rD sh)] m8 := by
    have hA2 : evA C (.cons (.var 5) .nil) env m8 = .ok [.d (rD sh)] m8 := by
      rw [evA_cons, c5, v5]
      simp only [Out.bind_ok, keepD_c, evA_nil]
    rw [evA_cons, c2, v2]
    simp only [Out.bind_ok, keepD_c, hA2]
  have hL : Tw.ev C (.call 15 (.cons (.var 2) (.cons (.var 5) .nil))) env m8 = .ok (.int (v : Int), .c) m8 := by
    rw [ev_call, hA, Out.bind_ok, hcall, Out.bind_ok]
  have hR : Tw.ev C (.cmp .le (.call 15 (.cons (.var 2) (.cons (.var 5) .nil))) X) env m8 = .ok (.bool true, .c) m8 := by
    rw [ev_cmp, hL, Out.bind_ok, h4, Out.bind_ok, cmp_le, decide_eq_true hle]; rfl
  rw [exs_cons, ex_ret, hR, Out.bind_ok]
  exact ⟨_, _, rfl, _, rfl⟩
theorem law_true06 (ns : List Int) (_ : ns.length ≤ 63) : ∃ F m, lawN GT F 20 f_law_k06 ns = .ok (.bool true) m := by
  obtain ⟨F, hF⟩ := ex_lt big
  refine ⟨F, law_W06 ?_⟩
  have hbig : 1000000 ≤ big := by decide
  simp [f_law_k06, b_law_k06]
  refine book_W (q := 3) (Cl_06 ns 10606 0) (by omega) (by omega) fun b1 m1 hb1 hne1 hbl1 _ hm1 => ?_
  try simp
  refine book_W (q := 2) hm1 (by omega) (by omega) fun b2 m2 hb2 hne2 hbl2 _ hm2 => ?_
  try simp
  refine book_W (q := 1) hm2 (by omega) (by omega) fun b3 m3 hb3 hne3 hbl3 _ hm3 => ?_
  try simp
  refine pick_W (xs := [bD b1, bD b2, bD b3]) hm3 (by simp) (by simp) fun i hi m4 hm4 => ?_
  obtain ⟨b, e, hb, hne, hbl⟩ : ∃ b, [bD b1, bD b2, bD b3][i] = bD b ∧ IsBook b ∧ b ≠ [] ∧ b.length ≤ 3 := by
    match i, hi with
    | 0, _ => exact ⟨b1, rfl, hb1, hne1, hbl1⟩
    | 1, _ => exact ⟨b2, rfl, hb2, hne2, hbl2⟩
    | 2, _ => exact ⟨b3, rfl, hb3, hne3, hbl3⟩
  rw [e]
  have hb8 : b.length ≤ 8 := by omega
  clear e hi
  simp only [setV_c, setS_succ, setS_zero, Option.map_some, Out.of_some, W_ok, nx_next, exs_cons, ex_set, ev_call, evA_cons, evA_nil, isCell_var, getS_succ, getS_zero, ev_var, Out.bind_ok, keepD_c, growth_eq hb hb8, ex_ifs, ev_cmp, ev_lit, cmp_ne]
  rcases growth_cases hne with hg | hg | ⟨hg, hsq⟩
  · rw [hg]
    have e1 : eqD (.str "endless") (.str "square") = some false := by decide +kernel
    have e2 : cmpD .isin (.str "endless") (.list [.str "greater", .str "endless"]) = some true := by decide +kernel
    simp [e1, e2]
  · rw [hg]
    have e1 : eqD (.str "greater") (.str "square") = some false := by decide +kernel
    have e2 : cmpD .isin (.str "greater") (.list [.str "greater", .str "endless"]) = some true := by decide +kernel
    simp [e1, e2]
  · rw [hg]
    have e1 : eqD (.str "square") (.str "square") = some true := by decide +kernel
    simp only [e1, Option.map_some, Out.of_some, Out.bind_ok, Bool.not_true, bb_f, exs_nil, nx_next, exs_cons, ex_par, evP_cons, evP_nil]
    have hdir := square_dir hb.rule hsq
    obtain ⟨G, hG, hG2⟩ : ∃ G : Int → Prop, (∀ k t, t ∈ stepsL b k → G ((invL t : Int) - invL k)) ∧ ((∀ u, G u → u < 0) ∨ (∀ u, G u → 0 < u)) := by
      rcases hdir with h | h
      · exact ⟨fun u => u < 0, fun k t ht => by have := h k t ht; omega, .inl fun _ h => h⟩
      · exact ⟨fun u => 0 < u, fun k t ht => by have := h k t ht; omega, .inr fun _ h => h⟩
    simp
    refine taken_W (k := 7) hm4 (by omega) (by omega) fun v m5 hv hm5 => ?_
    try simp
    refine drawn_W hm5 (by omega) fun r0 m6 hr0 hrow0 hm6 => ?_
    try simp
    refine W_for (fl := .c) (m' := m6) (List.range 4) nD (fun pre env m' => Cl m' ∧ ∃ (ups : List Int) (x4 x8 x9 x10 x11 x12 x13 : Option Sl), env = [none, some .cell, some (.v (bD b)), some (.v (.str "square")), x4, none, some (.v (rD r0)), some (.o (ups.map iD)), x8, x9, x10, x11, x12, x13] ∧ (∀ u ∈ ups, G u) ∧ ups.length ≤ 160 * pre.length) ?_ ?_ ?_ ?_
    · exact r1 (fl := .c) 4 (by simp) (by omega)
    · exact ⟨hm6, [], _, _, _, _, _, _, _, rfl, by simp, by simp⟩
    · rintro pre t post env m7 K e ⟨hm7, ups, x4, x8, x9, x10, x11, x12, x13, rfl, hu, hul⟩ hK _ _
      have hpre : pre.length < 4 := by have := congrArg List.length e; simp at this; omega
      simp
      refine taken_W (k := 5) hm7 (by omega) (by omega) fun v2 m8 hv2 hm8 => ?_
      simp
      rw [show (2 : Int) + (v2 : Int) = ((v2 + 2 : Nat) : Int) by omega]
      refine drawn_W (k := v2 + 2) hm8 (by omega) fun r m9 hr hrow hm9 => ?_
      try simp
      have h160 := len_steps hb.rule hb8 (show r.length ≤ 6 by omega)
      refine W_for (fl := .c) (m' := m9) (stepsL b r) rD (fun pre2 env m' => m9 = m' ∧ ∃ (ups : List Int) (x9 x10 x11 x12 x13 : Option Sl), env = [none, some .cell, some (.v (bD b)), some (.v (.str "square")), some (.v (nD t)), none, some (.v (rD r0)), some (.o (ups.map iD)), some (.v (rD r)), x9, x10, x11, x12, x13] ∧ (∀ u ∈ ups, G u) ∧ ups.length ≤ 160 * pre.length + pre2.length) ?_ ?_ ?_ ?_
      · simp [steps_eq hb hb8 hrow (show r.length ≤ 6 by omega), joinF]
      · exact ⟨rfl, ups, _, _, _, _, _, rfl, hu, by simpa using hul⟩
      · rintro pre2 s post2 env _ K2 e2 ⟨rfl, ups, x9, x10, x11, x12, x13, rfl, hu, hul⟩ hK2 _ _
        have hs : s ∈ stepsL b r := by rw [e2]; simp
        have hsl := stepsL_len hs
        have hpre2 : pre2.length ≤ 160 := by have := congrArg List.length e2; simp at this; omega
        have hsz : sz ups.length = true := decide_eq_true (by omega)
        have i1 : ∀ x y : PyData, ixD (.list [x, y]) (.int 1) = some y := fun x y => ix_l (i := 1) (by simp)
        simp only [bindG_n, setS_succ, setS_zero, exs_cons, ex_set]
        rw [ev_comp0 [r, s] rD (fun x => (invL x : Int)) iD .c (by simp [joinF]) (Nat.le_trans (show 2 ≤ 12 by decide) (show 12 ≤ big by decide))]
        · simp [hsz, i1]
          refine hK2 _ _ ⟨rfl, ups ++ [(invL s : Int) - invL r], _, _, _, _, _, by simp; exact ⟨rfl, rfl, rfl, rfl, rfl⟩, fun u hu2 => ?_, ?_⟩
          · rcases List.mem_append.mp hu2 with h | h
            · exact hu u h
            · have : u = (invL s : Int) - invL r := by simpa using h
              rw [this]; exact hG r s hs
          · rw [List.length_append, List.length_append, List.length_singleton, List.length_singleton]; omega
        · intro x hx
          have hxl : x.length ≤ 12 := by
            rcases List.mem_cons.mp hx with rfl | hx
            · omega
            · have : x = s := by simpa using hx
              rw [this]; omega
          simp only [bindG_n, wipeS_cons, wipeS_nil, List.set_cons_succ, List.set_cons_zero, setS_succ, setS_zero, cs0_some]
          rw [inv_ev hxl rfl rfl]
          rfl
      · rintro env _ ⟨rfl, ups, x9, x10, x11, x12, x13, rfl, hu, hul⟩
        simp
        refine hK _ _ ⟨hm9, ups, _, _, _, _, _, _, _, rfl, hu, ?_⟩
        rw [List.length_append, List.length_singleton]; omega
    · rintro env m7 ⟨hm7, ups, x4, x8, x9, x10, x11, x12, x13, rfl, hu, hul⟩
      have hcond : ev (callN GT F 20) (.and (.cmp .ne (.var 7) (.lst .nil)) (.and (.cmp .le (.b1 .min (.var 7)) (.lit (.int 0))) (.cmp .ge (.b1 .max (.var 7)) (.lit (.int 0))))) [none, some .cell, some (.v (bD b)), some (.v (.str "square")), x4, none, some (.v (rD r0)), some (.o (ups.map iD)), x8, x9, x10, x11, x12, x13] m7 = .ok (.bool false, .c) m7 := by
        by_cases h0 : ups = []
        · simp [h0]
        · have g1 : b1D .min (.list (ups.map iD)) = some (.int (mnI ups), .c) := b1_minI rfl h0
          have g2 : b1D .max (.list (ups.map iD)) = some (.int (mxI ups), .c) := b1_maxI rfl h0
          have h1 := hu _ (mnI_mem h0)
          have h2 := hu _ (mxI_mem h0)
          simp [eqD_ints0, h0, g1, g2]
          rcases hG2 with h | h
          · have := h _ h2
            intro _; exact this
          · have := h _ h1
            intro h3; omega
      simp only [nx_next, exs_cons, ex_ifs]
      rw [hcond]
      simp only [Out.bind_ok, bb_f, exs_nil, nx_next, exs_cons, ex_set, ev_ite]
      -- the longest walk from a short row
      by_cases h6 : r0.length < 6
      · have e3 : r0.take 5 = r0 := List.take_of_length_le (by omega)
        have e4 : sliceD (rD r0) none (some 5) = some (rD r0, .c) := by
          have := slice_to_t (xs := r0.map nD) (k := 5)
          rw [← List.map_take, e3] at this
          exact this
        have h6' : (r0.length : Int) < 6 := by omega
        simp [h6', e4, -exs_cons]
        exact last06 hb hb8 hF hdir hrow0 (by omega)
      · have h6' : ¬ (r0.length : Int) < 6 := by omega
        simp [h6', -exs_cons]
        refine drawn_W (k := 5) hm7 (by omega) fun sh m8 hsh hrow hm8 => ?_
        try simp [-exs_cons]
        exact last06 hb hb8 hF hdir hrow (by omega)
end Tw
set_option Elab.async false
set_option linter.all false
set_option maxRecDepth 100000
set_option maxHeartbeats 4000000
namespace K06
open PySem Tw PyProof.Rows L2
def topS (i : Nat) : Stmt := PySem.Challenge.pw_twelveways_k06_whole_square_runs.main.body.getD i (.Pass ⟨0, 0, 0, 0⟩)
def gf0 : List (Str × Nat × Nat) := [("is_in", 0, 3), ("is_row", 1, 1), ("is_rule", 2, 1), ("need_book", 3, 1), ("need_row", 4, 2), ("spots", 5, 2), ("lie", 6, 1)]
def gf7 : List (Str × Nat × Nat) := [("steps_in", 7, 2), ("sign_of", 44, 1), ("signs_in", 45, 1), ("ways_in", 47, 1), ("corner_sums_in", 50, 1), ("growth", 52, 1), ("need_both", 8, 2)]
def gf14 : List (Str × Nat × Nat) := [("steps", 9, 2), ("come_in", 10, 2), ("order_in", 13, 1), ("longest", 15, 2), ("_law_taken", 16, 2), ("_law_pick", 39, 2), ("_law_order", 17, 2)]
def gf21 : List (Str × Nat × Nat) := [("_law_lie", 18, 1), ("_law_drawn", 19, 2), ("_law_rule", 20, 2), ("_law_signs", 21, 1), ("_law_book", 22, 2)]
def glo : Glo := ⟨[("MOST_RULES", (.int 8)), ("MOST_LONG", (.int 4)), ("WORDS", (.tuple [(.str "first"), (.str "last"), (.str "least first"), (.str "least last"), (.str "greatest first"), (.str "greatest last")])), ("MOST_ROW", (.int 6))], gf0 ++ gf7 ++ gf14 ++ gf21⟩
abbrev s_is_in : Stmt := topS 6
abbrev s_is_row : Stmt := topS 10
abbrev s_is_rule : Stmt := topS 11
abbrev s_need_book : Stmt := topS 12
abbrev s_need_row : Stmt := topS 13
abbrev s_spots : Stmt := topS 14
abbrev s_lie : Stmt := topS 15
abbrev s_steps_in : Stmt := topS 16
abbrev s_sign_of : Stmt := topS 19
abbrev s_signs_in : Stmt := topS 20
abbrev s_ways_in : Stmt := topS 21
abbrev s_corner_sums_in : Stmt := topS 22
abbrev s_growth : Stmt := topS 23
abbrev s_need_both : Stmt := topS 26
abbrev s_steps : Stmt := topS 27
abbrev s_come_in : Stmt := topS 28
abbrev s_order_in : Stmt := topS 29
abbrev s_longest : Stmt := topS 30
abbrev s_law_taken : Stmt := topS 32
abbrev s_law_pick : Stmt := topS 33
abbrev s_law_order : Stmt := topS 34
abbrev s_law_lie : Stmt := topS 35
abbrev s_law_drawn : Stmt := topS 36
abbrev s_law_rule : Stmt := topS 37
abbrev s_law_signs : Stmt := topS 38
abbrev s_law_book : Stmt := topS 39
abbrev s_law_k06 : Stmt := topS 40
abbrev d_is_in : Df := ⟨"is_in", 0, ["value", "least", "most"], N_is_in, s_is_in, f_is_in⟩
abbrev d_is_row : Df := ⟨"is_row", 1, ["value"], N_is_row, s_is_row, f_is_row⟩
abbrev d_is_rule : Df := ⟨"is_rule", 2, ["value"], N_is_rule, s_is_rule, f_is_rule⟩
abbrev d_need_book : Df := ⟨"need_book", 3, ["book"], N_need_book, s_need_book, f_need_book⟩
abbrev d_need_row : Df := ⟨"need_row", 4, ["row", "most"], N_need_row, s_need_row, f_need_row⟩
abbrev d_spots : Df := ⟨"spots", 5, ["many", "long"], N_spots, s_spots, f_spots⟩
abbrev d_lie : Df := ⟨"lie", 6, ["numbers"], N_lie, s_lie, f_lie⟩
abbrev d_steps_in : Df := ⟨"steps_in", 7, ["book", "row"], N_steps_in, s_steps_in, f_steps_in⟩
abbrev d_sign_of : Df := ⟨"sign_of", 44, ["is_up"], N_sign_of, s_sign_of, f_sign_of⟩
abbrev d_signs_in : Df := ⟨"signs_in", 45, ["rule"], N_signs_in, s_signs_in, f_signs_in⟩
abbrev d_ways_in : Df := ⟨"ways_in", 47, ["book"], N_ways_in, s_ways_in, f_ways_in⟩
abbrev d_corner_sums_in : Df := ⟨"corner_sums_in", 50, ["rule"], N_corner_sums_in, s_corner_sums_in, f_corner_sums_in⟩
abbrev d_growth : Df := ⟨"growth", 52, ["book"], N_growth, s_growth, f_growth⟩
abbrev d_need_both : Df := ⟨"need_both", 8, ["book", "row"], N_need_both, s_need_both, f_need_both⟩
abbrev d_steps : Df := ⟨"steps", 9, ["book", "row"], N_steps, s_steps, f_steps⟩
abbrev d_come_in : Df := ⟨"come_in", 10, ["book", "row"], N_come_in, s_come_in, f_come_in⟩
abbrev d_order_in : Df := ⟨"order_in", 13, ["told"], N_order_in, s_order_in, f_order_in⟩
abbrev d_longest : Df := ⟨"longest", 15, ["book", "row"], N_longest, s_longest, f_longest⟩
abbrev d_law_taken : Df := ⟨"_law_taken", 16, ["_law_row", "_law_many"], N_law_taken, s_law_taken, f_law_taken⟩
abbrev d_law_pick : Df := ⟨"_law_pick", 39, ["_law_row", "_law_things"], N_law_pick, s_law_pick, f_law_pick⟩
abbrev d_law_order : Df := ⟨"_law_order", 17, ["_law_row", "_law_many"], N_law_order, s_law_order, f_law_order⟩
abbrev d_law_lie : Df := ⟨"_law_lie", 18, ["_law_numbers"], N_law_lie, s_law_lie, f_law_lie⟩
abbrev d_law_drawn : Df := ⟨"_law_drawn", 19, ["_law_row", "_law_many"], N_law_drawn, s_law_drawn, f_law_drawn⟩
abbrev d_law_rule : Df := ⟨"_law_rule", 20, ["_law_row", "_law_most"], N_law_rule, s_law_rule, f_law_rule⟩
abbrev d_law_signs : Df := ⟨"_law_signs", 21, ["_law_rule_here"], N_law_signs, s_law_signs, f_law_signs⟩
abbrev d_law_book : Df := ⟨"_law_book", 22, ["_law_row", "_law_most"], N_law_book, s_law_book, f_law_book⟩
def dfs : List Df := [d_is_in, d_is_row, d_is_rule, d_need_book, d_need_row, d_spots, d_lie, d_steps_in, d_sign_of, d_signs_in, d_ways_in, d_corner_sums_in, d_growth, d_need_both, d_steps, d_come_in, d_order_in, d_longest, d_law_taken, d_law_pick, d_law_order, d_law_lie, d_law_drawn, d_law_rule, d_law_signs, d_law_book]
theorem sc_is_in : FnScope N_is_in ["value", "least", "most"] (defScope s_is_in) := ⟨rfl, rfl, rfl, by decide +kernel, rfl, by decide +kernel, by decide +kernel⟩
theorem ck_is_in : dfB glo GT d_is_in = true := by decide +kernel
theorem sc_is_row : FnScope N_is_row ["value"] (defScope s_is_row) := ⟨rfl, rfl, rfl, by decide +kernel, rfl, by decide +kernel, by decide +kernel⟩
theorem ck_is_row : dfB glo GT d_is_row = true := by decide +kernel
theorem sc_is_rule : FnScope N_is_rule ["value"] (defScope s_is_rule) := ⟨rfl, rfl, rfl, by decide +kernel, rfl, by decide +kernel, by decide +kernel⟩
theorem ck_is_rule : dfB glo GT d_is_rule = true := by decide +kernel
theorem sc_need_book : FnScope N_need_book ["book"] (defScope s_need_book) := ⟨rfl, rfl, rfl, by decide +kernel, rfl, by decide +kernel, by decide +kernel⟩
theorem ck_need_book : dfB glo GT d_need_book = true := by decide +kernel
theorem sc_need_row : FnScope N_need_row ["row", "most"] (defScope s_need_row) := ⟨rfl, rfl, rfl, by decide +kernel, rfl, by decide +kernel, by decide +kernel⟩
theorem ck_need_row : dfB glo GT d_need_row = true := by decide +kernel
theorem sc_spots : FnScope N_spots ["many", "long"] (defScope s_spots) := ⟨rfl, rfl, rfl, by decide +kernel, rfl, by decide +kernel, by decide +kernel⟩
theorem ck_spots : dfB glo GT d_spots = true := by decide +kernel
theorem sc_lie : FnScope N_lie ["numbers"] (defScope s_lie) := ⟨rfl, rfl, rfl, by decide +kernel, rfl, by decide +kernel, by decide +kernel⟩
theorem ck_lie : dfB glo GT d_lie = true := by decide +kernel
theorem sc_steps_in : FnScope N_steps_in ["book", "row"] (defScope s_steps_in) := ⟨rfl, rfl, rfl, by decide +kernel, rfl, by decide +kernel, by decide +kernel⟩
theorem ck_steps_in : dfB glo GT d_steps_in = true := by decide +kernel
theorem sc_sign_of : FnScope N_sign_of ["is_up"] (defScope s_sign_of) := ⟨rfl, rfl, rfl, by decide +kernel, rfl, by decide +kernel, by decide +kernel⟩
theorem ck_sign_of : dfB glo GT d_sign_of = true := by decide +kernel
theorem sc_signs_in : FnScope N_signs_in ["rule"] (defScope s_signs_in) := ⟨rfl, rfl, rfl, by decide +kernel, rfl, by decide +kernel, by decide +kernel⟩
theorem ck_signs_in : dfB glo GT d_signs_in = true := by decide +kernel
theorem sc_ways_in : FnScope N_ways_in ["book"] (defScope s_ways_in) := ⟨rfl, rfl, rfl, by decide +kernel, rfl, by decide +kernel, by decide +kernel⟩
theorem ck_ways_in : dfB glo GT d_ways_in = true := by decide +kernel
theorem sc_corner_sums_in : FnScope N_corner_sums_in ["rule"] (defScope s_corner_sums_in) := ⟨rfl, rfl, rfl, by decide +kernel, rfl, by decide +kernel, by decide +kernel⟩
theorem ck_corner_sums_in : dfB glo GT d_corner_sums_in = true := by decide +kernel
theorem sc_growth : FnScope N_growth ["book"] (defScope s_growth) := ⟨rfl, rfl, rfl, by decide +kernel, rfl, by decide +kernel, by decide +kernel⟩
theorem ck_growth : dfB glo GT d_growth = true := by decide +kernel
theorem sc_need_both : FnScope N_need_both ["book", "row"] (defScope s_need_both) := ⟨rfl, rfl, rfl, by decide +kernel, rfl, by decide +kernel, by decide +kernel⟩
theorem ck_need_both : dfB glo GT d_need_both = true := by decide +kernel
theorem sc_steps : FnScope N_steps ["book", "row"] (defScope s_steps) := ⟨rfl, rfl, rfl, by decide +kernel, rfl, by decide +kernel, by decide +kernel⟩
theorem ck_steps : dfB glo GT d_steps = true := by decide +kernel
theorem sc_come_in : FnScope N_come_in ["book", "row"] (defScope s_come_in) := ⟨rfl, rfl, rfl, by decide +kernel, rfl, by decide +kernel, by decide +kernel⟩
theorem ck_come_in : dfB glo GT d_come_in = true := by decide +kernel
theorem sc_order_in : FnScope N_order_in ["told"] (defScope s_order_in) := ⟨rfl, rfl, rfl, by decide +kernel, rfl, by decide +kernel, by decide +kernel⟩
theorem ck_order_in : dfB glo GT d_order_in = true := by decide +kernel
theorem sc_longest : FnScope N_longest ["book", "row"] (defScope s_longest) := ⟨rfl, rfl, rfl, by decide +kernel, rfl, by decide +kernel, by decide +kernel⟩
theorem ck_longest : dfB glo GT d_longest = true := by decide +kernel
theorem sc_law_taken : FnScope N_law_taken ["_law_row", "_law_many"] (defScope s_law_taken) := ⟨rfl, rfl, rfl, by decide +kernel, rfl, by decide +kernel, by decide +kernel⟩
theorem ck_law_taken : dfB glo GT d_law_taken = true := by decide +kernel
theorem sc_law_pick : FnScope N_law_pick ["_law_row", "_law_things"] (defScope s_law_pick) := ⟨rfl, rfl, rfl, by decide +kernel, rfl, by decide +kernel, by decide +kernel⟩
theorem ck_law_pick : dfB glo GT d_law_pick = true := by decide +kernel
theorem sc_law_order : FnScope N_law_order ["_law_row", "_law_many"] (defScope s_law_order) := ⟨rfl, rfl, rfl, by decide +kernel, rfl, by decide +kernel, by decide +kernel⟩
theorem ck_law_order : dfB glo GT d_law_order = true := by decide +kernel
theorem sc_law_lie : FnScope N_law_lie ["_law_numbers"] (defScope s_law_lie) := ⟨rfl, rfl, rfl, by decide +kernel, rfl, by decide +kernel, by decide +kernel⟩
theorem ck_law_lie : dfB glo GT d_law_lie = true := by decide +kernel
theorem sc_law_drawn : FnScope N_law_drawn ["_law_row", "_law_many"] (defScope s_law_drawn) := ⟨rfl, rfl, rfl, by decide +kernel, rfl, by decide +kernel, by decide +kernel⟩
theorem ck_law_drawn : dfB glo GT d_law_drawn = true := by decide +kernel
theorem sc_law_rule : FnScope N_law_rule ["_law_row", "_law_most"] (defScope s_law_rule) := ⟨rfl, rfl, rfl, by decide +kernel, rfl, by decide +kernel, by decide +kernel⟩
theorem ck_law_rule : dfB glo GT d_law_rule = true := by decide +kernel
theorem sc_law_signs : FnScope N_law_signs ["_law_rule_here"] (defScope s_law_signs) := ⟨rfl, rfl, rfl, by decide +kernel, rfl, by decide +kernel, by decide +kernel⟩
theorem ck_law_signs : dfB glo GT d_law_signs = true := by decide +kernel
theorem sc_law_book : FnScope N_law_book ["_law_row", "_law_most"] (defScope s_law_book) := ⟨rfl, rfl, rfl, by decide +kernel, rfl, by decide +kernel, by decide +kernel⟩
theorem ck_law_book : dfB glo GT d_law_book = true := by decide +kernel
theorem sc_law : FnScope N_law_k06 ["_law_script"] (defScope s_law_k06) := ⟨rfl, rfl, rfl, by decide +kernel, rfl, by decide +kernel, by decide +kernel⟩
theorem ck_law : mSs ⟨glo, N_law_k06, defScope s_law_k06, fun _ => true⟩ b_law_k06 (defBody s_law_k06) = true := by decide +kernel
theorem law_true (ns : List Int) (h : ns.length ≤ 63) : ∃ F m, lawN GT F 20 f_law_k06 ns = .ok (.bool true) m := by obtain ⟨F, m, e⟩ := Tw.law_true06 ns h; exact ⟨F, m, e⟩
def depth : Nat := 20
def Q_is_in (K : PySem.W.Frag) (mg : Str → Option Value) : Prop := ∃ a fd, mg "is_in" = some (.ref a) ∧ Fun K "is_in" "is_in" s_is_in a fd ∧ Binds K fd ["value", "least", "most"] []
def Q_is_row (K : PySem.W.Frag) (mg : Str → Option Value) : Prop := ∃ a fd, mg "is_row" = some (.ref a) ∧ Fun K "is_row" "is_row" s_is_row a fd ∧ Binds K fd ["value"] []
def Q_is_rule (K : PySem.W.Frag) (mg : Str → Option Value) : Prop := ∃ a fd, mg "is_rule" = some (.ref a) ∧ Fun K "is_rule" "is_rule" s_is_rule a fd ∧ Binds K fd ["value"] []
def Q_need_book (K : PySem.W.Frag) (mg : Str → Option Value) : Prop := ∃ a fd, mg "need_book" = some (.ref a) ∧ Fun K "need_book" "need_book" s_need_book a fd ∧ Binds K fd ["book"] []
def Q_need_row (K : PySem.W.Frag) (mg : Str → Option Value) : Prop := ∃ a fd, mg "need_row" = some (.ref a) ∧ Fun K "need_row" "need_row" s_need_row a fd ∧ Binds K fd ["row", "most"] []
def Q_spots (K : PySem.W.Frag) (mg : Str → Option Value) : Prop := ∃ a fd, mg "spots" = some (.ref a) ∧ Fun K "spots" "spots" s_spots a fd ∧ Binds K fd ["many", "long"] []
def Q_lie (K : PySem.W.Frag) (mg : Str → Option Value) : Prop := ∃ a fd, mg "lie" = some (.ref a) ∧ Fun K "lie" "lie" s_lie a fd ∧ Binds K fd ["numbers"] []
def Q_steps_in (K : PySem.W.Frag) (mg : Str → Option Value) : Prop := ∃ a fd, mg "steps_in" = some (.ref a) ∧ Fun K "steps_in" "steps_in" s_steps_in a fd ∧ Binds K fd ["book", "row"] []
def Q_sign_of (K : PySem.W.Frag) (mg : Str → Option Value) : Prop := ∃ a fd, mg "sign_of" = some (.ref a) ∧ Fun K "sign_of" "sign_of" s_sign_of a fd ∧ Binds K fd ["is_up"] []
def Q_signs_in (K : PySem.W.Frag) (mg : Str → Option Value) : Prop := ∃ a fd, mg "signs_in" = some (.ref a) ∧ Fun K "signs_in" "signs_in" s_signs_in a fd ∧ Binds K fd ["rule"] []
def Q_ways_in (K : PySem.W.Frag) (mg : Str → Option Value) : Prop := ∃ a fd, mg "ways_in" = some (.ref a) ∧ Fun K "ways_in" "ways_in" s_ways_in a fd ∧ Binds K fd ["book"] []
def Q_corner_sums_in (K : PySem.W.Frag) (mg : Str → Option Value) : Prop := ∃ a fd, mg "corner_sums_in" = some (.ref a) ∧ Fun K "corner_sums_in" "corner_sums_in" s_corner_sums_in a fd ∧ Binds K fd ["rule"] []
def Q_growth (K : PySem.W.Frag) (mg : Str → Option Value) : Prop := ∃ a fd, mg "growth" = some (.ref a) ∧ Fun K "growth" "growth" s_growth a fd ∧ Binds K fd ["book"] []
def Q_need_both (K : PySem.W.Frag) (mg : Str → Option Value) : Prop := ∃ a fd, mg "need_both" = some (.ref a) ∧ Fun K "need_both" "need_both" s_need_both a fd ∧ Binds K fd ["book", "row"] []
def Q_steps (K : PySem.W.Frag) (mg : Str → Option Value) : Prop := ∃ a fd, mg "steps" = some (.ref a) ∧ Fun K "steps" "steps" s_steps a fd ∧ Binds K fd ["book", "row"] []
def Q_come_in (K : PySem.W.Frag) (mg : Str → Option Value) : Prop := ∃ a fd, mg "come_in" = some (.ref a) ∧ Fun K "come_in" "come_in" s_come_in a fd ∧ Binds K fd ["book", "row"] []
def Q_order_in (K : PySem.W.Frag) (mg : Str → Option Value) : Prop := ∃ a fd, mg "order_in" = some (.ref a) ∧ Fun K "order_in" "order_in" s_order_in a fd ∧ Binds K fd ["told"] []
def Q_longest (K : PySem.W.Frag) (mg : Str → Option Value) : Prop := ∃ a fd, mg "longest" = some (.ref a) ∧ Fun K "longest" "longest" s_longest a fd ∧ Binds K fd ["book", "row"] []
def Q_law_taken (K : PySem.W.Frag) (mg : Str → Option Value) : Prop := ∃ a fd, mg "_law_taken" = some (.ref a) ∧ Fun K "_law_taken" "_law_taken" s_law_taken a fd ∧ Binds K fd ["_law_row", "_law_many"] []
def Q_law_pick (K : PySem.W.Frag) (mg : Str → Option Value) : Prop := ∃ a fd, mg "_law_pick" = some (.ref a) ∧ Fun K "_law_pick" "_law_pick" s_law_pick a fd ∧ Binds K fd ["_law_row", "_law_things"] []
def Q_law_order (K : PySem.W.Frag) (mg : Str → Option Value) : Prop := ∃ a fd, mg "_law_order" = some (.ref a) ∧ Fun K "_law_order" "_law_order" s_law_order a fd ∧ Binds K fd ["_law_row", "_law_many"] []
def Q_law_lie (K : PySem.W.Frag) (mg : Str → Option Value) : Prop := ∃ a fd, mg "_law_lie" = some (.ref a) ∧ Fun K "_law_lie" "_law_lie" s_law_lie a fd ∧ Binds K fd ["_law_numbers"] []
def Q_law_drawn (K : PySem.W.Frag) (mg : Str → Option Value) : Prop := ∃ a fd, mg "_law_drawn" = some (.ref a) ∧ Fun K "_law_drawn" "_law_drawn" s_law_drawn a fd ∧ Binds K fd ["_law_row", "_law_many"] []
def Q_law_rule (K : PySem.W.Frag) (mg : Str → Option Value) : Prop := ∃ a fd, mg "_law_rule" = some (.ref a) ∧ Fun K "_law_rule" "_law_rule" s_law_rule a fd ∧ Binds K fd ["_law_row", "_law_most"] []
def Q_law_signs (K : PySem.W.Frag) (mg : Str → Option Value) : Prop := ∃ a fd, mg "_law_signs" = some (.ref a) ∧ Fun K "_law_signs" "_law_signs" s_law_signs a fd ∧ Binds K fd ["_law_rule_here"] []
def Q_law_book (K : PySem.W.Frag) (mg : Str → Option Value) : Prop := ∃ a fd, mg "_law_book" = some (.ref a) ∧ Fun K "_law_book" "_law_book" s_law_book a fd ∧ Binds K fd ["_law_row", "_law_most"] []
theorem all_mk {l : PySem.W.OpenLaw} {w : World} {K : PySem.W.Frag} {h : Heap} {mg : Str → Option Value} {fa q1 q2 q3 q4 q5 q6 q7 q8 q9 q10 q11 q12 q13 q14 q15 q16 q17 q18 q19 q20 q21 q22 q23 q24 q25 q26 q27 : Addr} (X : K.In h) (G : h.Ns mainGlobals mg) (hfa : mg "law" = some (.ref fa))
    {od1 an1 od2 an2 od3 an3 od4 an4 od5 an5 od6 an6 od7 an7 od8 an8 od9 an9 od10 an10 od11 an11 od12 an12 od13 an13 od14 an14 od15 an15 od16 an16 od17 an17 od18 an18 od19 an19 od20 an20 od21 an21 od22 an22 od23 an23 od24 an24 od25 an25 od26 an26 od27 an27 : Option Addr} {sl1 sl2 sl3 sl4 sl5 sl6 sl7 sl8 sl9 sl10 sl11 sl12 sl13 sl14 sl15 sl16 sl17 sl18 sl19 sl20 sl21 sl22 sl23 sl24 sl25 sl26 sl27 : Array (Option Value)} {oc1 kV1 dc1 pm1 cd1 ct1 oc2 kV2 dc2 pm2 cd2 ct2 oc3 kV3 dc3 pm3 cd3 ct3 oc4 kV4 dc4 pm4 cd4 ct4 oc5 kV5 dc5 pm5 cd5 ct5 oc6 kV6 dc6 pm6 cd6 ct6 oc7 kV7 dc7 pm7 cd7 ct7 oc8 kV8 dc8 pm8 cd8 ct8 oc9 kV9 dc9 pm9 cd9 ct9 oc10 kV10 dc10 pm10 cd10 ct10 oc11 kV11 dc11 pm11 cd11 ct11 oc12 kV12 dc12 pm12 cd12 ct12 oc13 kV13 dc13 pm13 cd13 ct13 oc14 kV14 dc14 pm14 cd14 ct14 oc15 kV15 dc15 pm15 cd15 ct15 oc16 kV16 dc16 pm16 cd16 ct16 oc17 kV17 dc17 pm17 cd17 ct17 oc18 kV18 dc18 pm18 cd18 ct18 oc19 kV19 dc19 pm19 cd19 ct19 oc20 kV20 dc20 pm20 cd20 ct20 oc21 kV21 dc21 pm21 cd21 ct21 oc22 kV22 dc22 pm22 cd22 ct22 oc23 kV23 dc23 pm23 cd23 ct23 oc24 kV24 dc24 pm24 cd24 ct24 oc25 kV25 dc25 pm25 cd25 ct25 oc26 kV26 dc26 pm26 cd26 ct26 oc27 kV27 dc27 pm27 cd27 ct27 : Value} {i0 : Tok} {i1 : Tok} {i2 : Tok} {x0 : Addr} {od_0 : Option Addr} {sl_0 : Array (Option Value)} {h_0 : Nat} {y0_0 y0_1 y0_2 y0_3 y0_4 y0_5 : Tok}
    (a1 : PySem.W.nsIn K mainGlobals "is_in" = some (some (.ref q1)))
    (l1 : K.lookup q1 = some ⟨oc1, od1, .func (PySem.W.fnOf "is_in" "is_in" (defArgs s_is_in) (defBody s_is_in) (defScope s_is_in) .none kV1 dc1 pm1 an1 cd1 ct1), sl1⟩)
    (c1 : PySem.W.codeIn K cd1 "is_in" = true)
    (k1 : PySem.W.keepIn K (.ref q1) = true)
    (a2 : PySem.W.nsIn K mainGlobals "is_row" = some (some (.ref q2)))
    (l2 : K.lookup q2 = some ⟨oc2, od2, .func (PySem.W.fnOf "is_row" "is_row" (defArgs s_is_row) (defBody s_is_row) (defScope s_is_row) .none kV2 dc2 pm2 an2 cd2 ct2), sl2⟩)
    (c2 : PySem.W.codeIn K cd2 "is_row" = true)
    (k2 : PySem.W.keepIn K (.ref q2) = true)
    (a3 : PySem.W.nsIn K mainGlobals "is_rule" = some (some (.ref q3)))
    (l3 : K.lookup q3 = some ⟨oc3, od3, .func (PySem.W.fnOf "is_rule" "is_rule" (defArgs s_is_rule) (defBody s_is_rule) (defScope s_is_rule) .none kV3 dc3 pm3 an3 cd3 ct3), sl3⟩)
    (c3 : PySem.W.codeIn K cd3 "is_rule" = true)
    (k3 : PySem.W.keepIn K (.ref q3) = true)
    (a4 : PySem.W.nsIn K mainGlobals "need_book" = some (some (.ref q4)))
    (l4 : K.lookup q4 = some ⟨oc4, od4, .func (PySem.W.fnOf "need_book" "need_book" (defArgs s_need_book) (defBody s_need_book) (defScope s_need_book) .none kV4 dc4 pm4 an4 cd4 ct4), sl4⟩)
    (c4 : PySem.W.codeIn K cd4 "need_book" = true)
    (k4 : PySem.W.keepIn K (.ref q4) = true)
    (a5 : PySem.W.nsIn K mainGlobals "need_row" = some (some (.ref q5)))
    (l5 : K.lookup q5 = some ⟨oc5, od5, .func (PySem.W.fnOf "need_row" "need_row" (defArgs s_need_row) (defBody s_need_row) (defScope s_need_row) .none kV5 dc5 pm5 an5 cd5 ct5), sl5⟩)
    (c5 : PySem.W.codeIn K cd5 "need_row" = true)
    (k5 : PySem.W.keepIn K (.ref q5) = true)
    (a6 : PySem.W.nsIn K mainGlobals "spots" = some (some (.ref q6)))
    (l6 : K.lookup q6 = some ⟨oc6, od6, .func (PySem.W.fnOf "spots" "spots" (defArgs s_spots) (defBody s_spots) (defScope s_spots) .none kV6 dc6 pm6 an6 cd6 ct6), sl6⟩)
    (c6 : PySem.W.codeIn K cd6 "spots" = true)
    (k6 : PySem.W.keepIn K (.ref q6) = true)
    (a7 : PySem.W.nsIn K mainGlobals "lie" = some (some (.ref q7)))
    (l7 : K.lookup q7 = some ⟨oc7, od7, .func (PySem.W.fnOf "lie" "lie" (defArgs s_lie) (defBody s_lie) (defScope s_lie) .none kV7 dc7 pm7 an7 cd7 ct7), sl7⟩)
    (c7 : PySem.W.codeIn K cd7 "lie" = true)
    (k7 : PySem.W.keepIn K (.ref q7) = true)
    (a8 : PySem.W.nsIn K mainGlobals "steps_in" = some (some (.ref q8)))
    (l8 : K.lookup q8 = some ⟨oc8, od8, .func (PySem.W.fnOf "steps_in" "steps_in" (defArgs s_steps_in) (defBody s_steps_in) (defScope s_steps_in) .none kV8 dc8 pm8 an8 cd8 ct8), sl8⟩)
    (c8 : PySem.W.codeIn K cd8 "steps_in" = true)
    (k8 : PySem.W.keepIn K (.ref q8) = true)
    (a9 : PySem.W.nsIn K mainGlobals "sign_of" = some (some (.ref q9)))
    (l9 : K.lookup q9 = some ⟨oc9, od9, .func (PySem.W.fnOf "sign_of" "sign_of" (defArgs s_sign_of) (defBody s_sign_of) (defScope s_sign_of) .none kV9 dc9 pm9 an9 cd9 ct9), sl9⟩)
    (c9 : PySem.W.codeIn K cd9 "sign_of" = true)
    (k9 : PySem.W.keepIn K (.ref q9) = true)
    (a10 : PySem.W.nsIn K mainGlobals "signs_in" = some (some (.ref q10)))
    (l10 : K.lookup q10 = some ⟨oc10, od10, .func (PySem.W.fnOf "signs_in" "signs_in" (defArgs s_signs_in) (defBody s_signs_in) (defScope s_signs_in) .none kV10 dc10 pm10 an10 cd10 ct10), sl10⟩)
    (c10 : PySem.W.codeIn K cd10 "signs_in" = true)
    (k10 : PySem.W.keepIn K (.ref q10) = true)
    (a11 : PySem.W.nsIn K mainGlobals "ways_in" = some (some (.ref q11)))
    (l11 : K.lookup q11 = some ⟨oc11, od11, .func (PySem.W.fnOf "ways_in" "ways_in" (defArgs s_ways_in) (defBody s_ways_in) (defScope s_ways_in) .none kV11 dc11 pm11 an11 cd11 ct11), sl11⟩)
    (c11 : PySem.W.codeIn K cd11 "ways_in" = true)
    (k11 : PySem.W.keepIn K (.ref q11) = true)
    (a12 : PySem.W.nsIn K mainGlobals "corner_sums_in" = some (some (.ref q12)))
    (l12 : K.lookup q12 = some ⟨oc12, od12, .func (PySem.W.fnOf "corner_sums_in" "corner_sums_in" (defArgs s_corner_sums_in) (defBody s_corner_sums_in) (defScope s_corner_sums_in) .none kV12 dc12 pm12 an12 cd12 ct12), sl12⟩)
    (c12 : PySem.W.codeIn K cd12 "corner_sums_in" = true)
    (k12 : PySem.W.keepIn K (.ref q12) = true)
    (a13 : PySem.W.nsIn K mainGlobals "growth" = some (some (.ref q13)))
    (l13 : K.lookup q13 = some ⟨oc13, od13, .func (PySem.W.fnOf "growth" "growth" (defArgs s_growth) (defBody s_growth) (defScope s_growth) .none kV13 dc13 pm13 an13 cd13 ct13), sl13⟩)
    (c13 : PySem.W.codeIn K cd13 "growth" = true)
    (k13 : PySem.W.keepIn K (.ref q13) = true)
    (a14 : PySem.W.nsIn K mainGlobals "need_both" = some (some (.ref q14)))
    (l14 : K.lookup q14 = some ⟨oc14, od14, .func (PySem.W.fnOf "need_both" "need_both" (defArgs s_need_both) (defBody s_need_both) (defScope s_need_both) .none kV14 dc14 pm14 an14 cd14 ct14), sl14⟩)
    (c14 : PySem.W.codeIn K cd14 "need_both" = true)
    (k14 : PySem.W.keepIn K (.ref q14) = true)
    (a15 : PySem.W.nsIn K mainGlobals "steps" = some (some (.ref q15)))
    (l15 : K.lookup q15 = some ⟨oc15, od15, .func (PySem.W.fnOf "steps" "steps" (defArgs s_steps) (defBody s_steps) (defScope s_steps) .none kV15 dc15 pm15 an15 cd15 ct15), sl15⟩)
    (c15 : PySem.W.codeIn K cd15 "steps" = true)
    (k15 : PySem.W.keepIn K (.ref q15) = true)
    (a16 : PySem.W.nsIn K mainGlobals "come_in" = some (some (.ref q16)))
    (l16 : K.lookup q16 = some ⟨oc16, od16, .func (PySem.W.fnOf "come_in" "come_in" (defArgs s_come_in) (defBody s_come_in) (defScope s_come_in) .none kV16 dc16 pm16 an16 cd16 ct16), sl16⟩)
    (c16 : PySem.W.codeIn K cd16 "come_in" = true)
    (k16 : PySem.W.keepIn K (.ref q16) = true)
    (a17 : PySem.W.nsIn K mainGlobals "order_in" = some (some (.ref q17)))
    (l17 : K.lookup q17 = some ⟨oc17, od17, .func (PySem.W.fnOf "order_in" "order_in" (defArgs s_order_in) (defBody s_order_in) (defScope s_order_in) .none kV17 dc17 pm17 an17 cd17 ct17), sl17⟩)
    (c17 : PySem.W.codeIn K cd17 "order_in" = true)
    (k17 : PySem.W.keepIn K (.ref q17) = true)
    (a18 : PySem.W.nsIn K mainGlobals "longest" = some (some (.ref q18)))
    (l18 : K.lookup q18 = some ⟨oc18, od18, .func (PySem.W.fnOf "longest" "longest" (defArgs s_longest) (defBody s_longest) (defScope s_longest) .none kV18 dc18 pm18 an18 cd18 ct18), sl18⟩)
    (c18 : PySem.W.codeIn K cd18 "longest" = true)
    (k18 : PySem.W.keepIn K (.ref q18) = true)
    (a19 : PySem.W.nsIn K mainGlobals "_law_taken" = some (some (.ref q19)))
    (l19 : K.lookup q19 = some ⟨oc19, od19, .func (PySem.W.fnOf "_law_taken" "_law_taken" (defArgs s_law_taken) (defBody s_law_taken) (defScope s_law_taken) .none kV19 dc19 pm19 an19 cd19 ct19), sl19⟩)
    (c19 : PySem.W.codeIn K cd19 "_law_taken" = true)
    (k19 : PySem.W.keepIn K (.ref q19) = true)
    (a20 : PySem.W.nsIn K mainGlobals "_law_pick" = some (some (.ref q20)))
    (l20 : K.lookup q20 = some ⟨oc20, od20, .func (PySem.W.fnOf "_law_pick" "_law_pick" (defArgs s_law_pick) (defBody s_law_pick) (defScope s_law_pick) .none kV20 dc20 pm20 an20 cd20 ct20), sl20⟩)
    (c20 : PySem.W.codeIn K cd20 "_law_pick" = true)
    (k20 : PySem.W.keepIn K (.ref q20) = true)
    (a21 : PySem.W.nsIn K mainGlobals "_law_order" = some (some (.ref q21)))
    (l21 : K.lookup q21 = some ⟨oc21, od21, .func (PySem.W.fnOf "_law_order" "_law_order" (defArgs s_law_order) (defBody s_law_order) (defScope s_law_order) .none kV21 dc21 pm21 an21 cd21 ct21), sl21⟩)
    (c21 : PySem.W.codeIn K cd21 "_law_order" = true)
    (k21 : PySem.W.keepIn K (.ref q21) = true)
    (a22 : PySem.W.nsIn K mainGlobals "_law_lie" = some (some (.ref q22)))
    (l22 : K.lookup q22 = some ⟨oc22, od22, .func (PySem.W.fnOf "_law_lie" "_law_lie" (defArgs s_law_lie) (defBody s_law_lie) (defScope s_law_lie) .none kV22 dc22 pm22 an22 cd22 ct22), sl22⟩)
    (c22 : PySem.W.codeIn K cd22 "_law_lie" = true)
    (k22 : PySem.W.keepIn K (.ref q22) = true)
    (a23 : PySem.W.nsIn K mainGlobals "_law_drawn" = some (some (.ref q23)))
    (l23 : K.lookup q23 = some ⟨oc23, od23, .func (PySem.W.fnOf "_law_drawn" "_law_drawn" (defArgs s_law_drawn) (defBody s_law_drawn) (defScope s_law_drawn) .none kV23 dc23 pm23 an23 cd23 ct23), sl23⟩)
    (c23 : PySem.W.codeIn K cd23 "_law_drawn" = true)
    (k23 : PySem.W.keepIn K (.ref q23) = true)
    (a24 : PySem.W.nsIn K mainGlobals "_law_rule" = some (some (.ref q24)))
    (l24 : K.lookup q24 = some ⟨oc24, od24, .func (PySem.W.fnOf "_law_rule" "_law_rule" (defArgs s_law_rule) (defBody s_law_rule) (defScope s_law_rule) .none kV24 dc24 pm24 an24 cd24 ct24), sl24⟩)
    (c24 : PySem.W.codeIn K cd24 "_law_rule" = true)
    (k24 : PySem.W.keepIn K (.ref q24) = true)
    (a25 : PySem.W.nsIn K mainGlobals "_law_signs" = some (some (.ref q25)))
    (l25 : K.lookup q25 = some ⟨oc25, od25, .func (PySem.W.fnOf "_law_signs" "_law_signs" (defArgs s_law_signs) (defBody s_law_signs) (defScope s_law_signs) .none kV25 dc25 pm25 an25 cd25 ct25), sl25⟩)
    (c25 : PySem.W.codeIn K cd25 "_law_signs" = true)
    (k25 : PySem.W.keepIn K (.ref q25) = true)
    (a26 : PySem.W.nsIn K mainGlobals "_law_book" = some (some (.ref q26)))
    (l26 : K.lookup q26 = some ⟨oc26, od26, .func (PySem.W.fnOf "_law_book" "_law_book" (defArgs s_law_book) (defBody s_law_book) (defScope s_law_book) .none kV26 dc26 pm26 an26 cd26 ct26), sl26⟩)
    (c26 : PySem.W.codeIn K cd26 "_law_book" = true)
    (k26 : PySem.W.keepIn K (.ref q26) = true)
    (a27 : PySem.W.nsIn K mainGlobals "law" = some (some (.ref q27)))
    (l27 : K.lookup q27 = some ⟨oc27, od27, .func (PySem.W.fnOf "law" "law" (defArgs s_law_k06) (defBody s_law_k06) (defScope s_law_k06) .none kV27 dc27 pm27 an27 cd27 ct27), sl27⟩)
    (c27 : PySem.W.codeIn K cd27 "law" = true)
    (k27 : PySem.W.keepIn K (.ref q27) = true)
    (z0 : PySem.W.nsIn K mainGlobals "range" = some none)
    (z1 : PySem.W.nsIn K mainGlobals "len" = some none)
    (z2 : PySem.W.nsIn K mainGlobals "sorted" = some none)
    (z3 : PySem.W.nsIn K mainGlobals "set" = some none)
    (z4 : PySem.W.nsIn K mainGlobals "tuple" = some none)
    (z5 : PySem.W.nsIn K mainGlobals "list" = some none)
    (z6 : PySem.W.nsIn K mainGlobals "max" = some none)
    (z7 : PySem.W.nsIn K mainGlobals "min" = some none)
    (z8 : PySem.W.nsIn K mainGlobals "sum" = some none)
    (z9 : PySem.W.nsIn K mainGlobals "abs" = some none)
    (z10 : PySem.W.nsIn K mainGlobals "int" = some none)
    (z11 : PySem.W.nsIn K mainGlobals "str" = some none)
    (z12 : PySem.W.nsIn K mainGlobals "enumerate" = some none)
    (z13 : PySem.W.nsIn K mainGlobals "zip" = some none)
    (z14 : PySem.W.nsIn K mainGlobals "isinstance" = some none)
    (z15 : PySem.W.nsIn K mainGlobals "bool" = some none)
    (z16 : PySem.W.nsIn K mainGlobals "dict" = some none)
    (n0 : PySem.W.nsIn K mainGlobals "MOST_RULES" = some (some (.int 8 i0)))
    (n1 : PySem.W.nsIn K mainGlobals "MOST_LONG" = some (some (.int 4 i1)))
    (n2 : PySem.W.nsIn K mainGlobals "MOST_ROW" = some (some (.int 6 i2)))
    (t0 : PySem.W.nsIn K mainGlobals "WORDS" = some (some (.ref x0)))
    (u0 : K.lookup x0 = some ⟨.type "tuple", od_0, .seq #[.str "first" y0_0, .str "last" y0_1, .str "least first" y0_2, .str "least last" y0_3, .str "greatest first" y0_4, .str "greatest last" y0_5] h_0, sl_0⟩)
    : ∃ fd : FuncData, (∀ (s : Shared) (v : Value), BindsTo s fd ⟨[v], []⟩ [("_law_script", v)]) ∧ ∀ base : Heap, K.In base → base.Ns mainGlobals mg → FnOk l.prog w K mg base (L2.CX l.prog w) (depth + 1) fa fd ["_law_script"] (spL K GT depth f_law_k06) := by
  have e := hfa.symm.trans (PySem.W.mg_of X G a27)
  cases e
  have F1 : Q_is_in K mg := ⟨_, _, PySem.W.mg_of X G a1, fun_mk (st := s_is_in) l1 c1 k1, (fun_mk (st := s_is_in) l1 c1 k1).binds fun _ _ _ _ _ _ us hl => match us, hl with | [_, _, _], _ => rfl⟩
  have F2 : Q_is_row K mg := ⟨_, _, PySem.W.mg_of X G a2, fun_mk (st := s_is_row) l2 c2 k2, (fun_mk (st := s_is_row) l2 c2 k2).binds fun _ _ _ _ _ _ us hl => match us, hl with | [_], _ => rfl⟩
  have F3 : Q_is_rule K mg := ⟨_, _, PySem.W.mg_of X G a3, fun_mk (st := s_is_rule) l3 c3 k3, (fun_mk (st := s_is_rule) l3 c3 k3).binds fun _ _ _ _ _ _ us hl => match us, hl with | [_], _ => rfl⟩
  have F4 : Q_need_book K mg := ⟨_, _, PySem.W.mg_of X G a4, fun_mk (st := s_need_book) l4 c4 k4, (fun_mk (st := s_need_book) l4 c4 k4).binds fun _ _ _ _ _ _ us hl => match us, hl with | [_], _ => rfl⟩
  have F5 : Q_need_row K mg := ⟨_, _, PySem.W.mg_of X G a5, fun_mk (st := s_need_row) l5 c5 k5, (fun_mk (st := s_need_row) l5 c5 k5).binds fun _ _ _ _ _ _ us hl => match us, hl with | [_, _], _ => rfl⟩
  have F6 : Q_spots K mg := ⟨_, _, PySem.W.mg_of X G a6, fun_mk (st := s_spots) l6 c6 k6, (fun_mk (st := s_spots) l6 c6 k6).binds fun _ _ _ _ _ _ us hl => match us, hl with | [_, _], _ => rfl⟩
  have F7 : Q_lie K mg := ⟨_, _, PySem.W.mg_of X G a7, fun_mk (st := s_lie) l7 c7 k7, (fun_mk (st := s_lie) l7 c7 k7).binds fun _ _ _ _ _ _ us hl => match us, hl with | [_], _ => rfl⟩
  have F8 : Q_steps_in K mg := ⟨_, _, PySem.W.mg_of X G a8, fun_mk (st := s_steps_in) l8 c8 k8, (fun_mk (st := s_steps_in) l8 c8 k8).binds fun _ _ _ _ _ _ us hl => match us, hl with | [_, _], _ => rfl⟩
  have F9 : Q_sign_of K mg := ⟨_, _, PySem.W.mg_of X G a9, fun_mk (st := s_sign_of) l9 c9 k9, (fun_mk (st := s_sign_of) l9 c9 k9).binds fun _ _ _ _ _ _ us hl => match us, hl with | [_], _ => rfl⟩
  have F10 : Q_signs_in K mg := ⟨_, _, PySem.W.mg_of X G a10, fun_mk (st := s_signs_in) l10 c10 k10, (fun_mk (st := s_signs_in) l10 c10 k10).binds fun _ _ _ _ _ _ us hl => match us, hl with | [_], _ => rfl⟩
  have F11 : Q_ways_in K mg := ⟨_, _, PySem.W.mg_of X G a11, fun_mk (st := s_ways_in) l11 c11 k11, (fun_mk (st := s_ways_in) l11 c11 k11).binds fun _ _ _ _ _ _ us hl => match us, hl with | [_], _ => rfl⟩
  have F12 : Q_corner_sums_in K mg := ⟨_, _, PySem.W.mg_of X G a12, fun_mk (st := s_corner_sums_in) l12 c12 k12, (fun_mk (st := s_corner_sums_in) l12 c12 k12).binds fun _ _ _ _ _ _ us hl => match us, hl with | [_], _ => rfl⟩
  have F13 : Q_growth K mg := ⟨_, _, PySem.W.mg_of X G a13, fun_mk (st := s_growth) l13 c13 k13, (fun_mk (st := s_growth) l13 c13 k13).binds fun _ _ _ _ _ _ us hl => match us, hl with | [_], _ => rfl⟩
  have F14 : Q_need_both K mg := ⟨_, _, PySem.W.mg_of X G a14, fun_mk (st := s_need_both) l14 c14 k14, (fun_mk (st := s_need_both) l14 c14 k14).binds fun _ _ _ _ _ _ us hl => match us, hl with | [_, _], _ => rfl⟩
  have F15 : Q_steps K mg := ⟨_, _, PySem.W.mg_of X G a15, fun_mk (st := s_steps) l15 c15 k15, (fun_mk (st := s_steps) l15 c15 k15).binds fun _ _ _ _ _ _ us hl => match us, hl with | [_, _], _ => rfl⟩
  have F16 : Q_come_in K mg := ⟨_, _, PySem.W.mg_of X G a16, fun_mk (st := s_come_in) l16 c16 k16, (fun_mk (st := s_come_in) l16 c16 k16).binds fun _ _ _ _ _ _ us hl => match us, hl with | [_, _], _ => rfl⟩
  have F17 : Q_order_in K mg := ⟨_, _, PySem.W.mg_of X G a17, fun_mk (st := s_order_in) l17 c17 k17, (fun_mk (st := s_order_in) l17 c17 k17).binds fun _ _ _ _ _ _ us hl => match us, hl with | [_], _ => rfl⟩
  have F18 : Q_longest K mg := ⟨_, _, PySem.W.mg_of X G a18, fun_mk (st := s_longest) l18 c18 k18, (fun_mk (st := s_longest) l18 c18 k18).binds fun _ _ _ _ _ _ us hl => match us, hl with | [_, _], _ => rfl⟩
  have F19 : Q_law_taken K mg := ⟨_, _, PySem.W.mg_of X G a19, fun_mk (st := s_law_taken) l19 c19 k19, (fun_mk (st := s_law_taken) l19 c19 k19).binds fun _ _ _ _ _ _ us hl => match us, hl with | [_, _], _ => rfl⟩
  have F20 : Q_law_pick K mg := ⟨_, _, PySem.W.mg_of X G a20, fun_mk (st := s_law_pick) l20 c20 k20, (fun_mk (st := s_law_pick) l20 c20 k20).binds fun _ _ _ _ _ _ us hl => match us, hl with | [_, _], _ => rfl⟩
  have F21 : Q_law_order K mg := ⟨_, _, PySem.W.mg_of X G a21, fun_mk (st := s_law_order) l21 c21 k21, (fun_mk (st := s_law_order) l21 c21 k21).binds fun _ _ _ _ _ _ us hl => match us, hl with | [_, _], _ => rfl⟩
  have F22 : Q_law_lie K mg := ⟨_, _, PySem.W.mg_of X G a22, fun_mk (st := s_law_lie) l22 c22 k22, (fun_mk (st := s_law_lie) l22 c22 k22).binds fun _ _ _ _ _ _ us hl => match us, hl with | [_], _ => rfl⟩
  have F23 : Q_law_drawn K mg := ⟨_, _, PySem.W.mg_of X G a23, fun_mk (st := s_law_drawn) l23 c23 k23, (fun_mk (st := s_law_drawn) l23 c23 k23).binds fun _ _ _ _ _ _ us hl => match us, hl with | [_, _], _ => rfl⟩
  have F24 : Q_law_rule K mg := ⟨_, _, PySem.W.mg_of X G a24, fun_mk (st := s_law_rule) l24 c24 k24, (fun_mk (st := s_law_rule) l24 c24 k24).binds fun _ _ _ _ _ _ us hl => match us, hl with | [_, _], _ => rfl⟩
  have F25 : Q_law_signs K mg := ⟨_, _, PySem.W.mg_of X G a25, fun_mk (st := s_law_signs) l25 c25 k25, (fun_mk (st := s_law_signs) l25 c25 k25).binds fun _ _ _ _ _ _ us hl => match us, hl with | [_], _ => rfl⟩
  have F26 : Q_law_book K mg := ⟨_, _, PySem.W.mg_of X G a26, fun_mk (st := s_law_book) l26 c26 k26, (fun_mk (st := s_law_book) l26 c26 k26).binds fun _ _ _ _ _ _ us hl => match us, hl with | [_, _], _ => rfl⟩
  have FL := fun_mk (st := s_law_k06) l27 c27 k27
  have b0 := PySem.W.mg_none_of X G z0
  have b1 := PySem.W.mg_none_of X G z1
  have b2 := PySem.W.mg_none_of X G z2
  have b3 := PySem.W.mg_none_of X G z3
  have b4 := PySem.W.mg_none_of X G z4
  have b5 := PySem.W.mg_none_of X G z5
  have b6 := PySem.W.mg_none_of X G z6
  have b7 := PySem.W.mg_none_of X G z7
  have b8 := PySem.W.mg_none_of X G z8
  have b9 := PySem.W.mg_none_of X G z9
  have b10 := PySem.W.mg_none_of X G z10
  have b11 := PySem.W.mg_none_of X G z11
  have b12 := PySem.W.mg_none_of X G z12
  have b13 := PySem.W.mg_none_of X G z13
  have b14 := PySem.W.mg_none_of X G z14
  have b15 := PySem.W.mg_none_of X G z15
  have b16 := PySem.W.mg_none_of X G z16
  have Z : Wd l.prog w K mg glo GT dfs := by
    refine ⟨?_, ?_, ?_, ?_⟩
    · intro x hx
      simp only [bltNames, List.mem_cons, List.not_mem_nil, or_false] at hx
      rcases hx with rfl | rfl | rfl | rfl | rfl | rfl | rfl | rfl | rfl | rfl | rfl | rfl | rfl | rfl | rfl | rfl | rfl
      · exact b0
      · exact b1
      · exact b2
      · exact b3
      · exact b4
      · exact b5
      · exact b6
      · exact b7
      · exact b8
      · exact b9
      · exact b10
      · exact b11
      · exact b12
      · exact b13
      · exact b14
      · exact b15
      · exact b16
    · intro p hp
      simp only [glo, List.mem_cons, List.not_mem_nil, or_false] at hp
      rcases hp with rfl | rfl | rfl | rfl
      · exact ⟨.int 8, _, PySem.W.mg_of X G n0, ⟨_, rfl⟩, fun _ _ => .int _⟩
      · exact ⟨.int 4, _, PySem.W.mg_of X G n1, ⟨_, rfl⟩, fun _ _ => .int _⟩
      · exact ⟨.ref _, _, PySem.W.mg_of X G t0, rfl, fun _ _ => .tupK (xs := [.str "first", .str "last", .str "least first", .str "least last", .str "greatest first", .str "greatest last"]) (fun _ => .inr ⟨_, _, _, u0, rfl, rfl, (by decide : 6 ≤ sizeLine), .cons ⟨_, rfl⟩ <| .cons ⟨_, rfl⟩ <| .cons ⟨_, rfl⟩ <| .cons ⟨_, rfl⟩ <| .cons ⟨_, rfl⟩ <| .cons ⟨_, rfl⟩ <| .nil⟩) (.cons (.str _) <| .cons (.str _) <| .cons (.str _) <| .cons (.str _) <| .cons (.str _) <| .cons (.str _) <| .nil)⟩
      · exact ⟨.int 6, _, PySem.W.mg_of X G n2, ⟨_, rfl⟩, fun _ _ => .int _⟩
    · decide +kernel
    · intro d hd
      simp only [dfs, List.mem_cons, List.not_mem_nil, or_false] at hd
      rcases hd with rfl | rfl | rfl | rfl | rfl | rfl | rfl | rfl | rfl | rfl | rfl | rfl | rfl | rfl | rfl | rfl | rfl | rfl | rfl | rfl | rfl | rfl | rfl | rfl | rfl | rfl
      · exact ⟨rfl, sc_is_in, ck_is_in, F1⟩
      · exact ⟨rfl, sc_is_row, ck_is_row, F2⟩
      · exact ⟨rfl, sc_is_rule, ck_is_rule, F3⟩
      · exact ⟨rfl, sc_need_book, ck_need_book, F4⟩
      · exact ⟨rfl, sc_need_row, ck_need_row, F5⟩
      · exact ⟨rfl, sc_spots, ck_spots, F6⟩
      · exact ⟨rfl, sc_lie, ck_lie, F7⟩
      · exact ⟨rfl, sc_steps_in, ck_steps_in, F8⟩
      · exact ⟨rfl, sc_sign_of, ck_sign_of, F9⟩
      · exact ⟨rfl, sc_signs_in, ck_signs_in, F10⟩
      · exact ⟨rfl, sc_ways_in, ck_ways_in, F11⟩
      · exact ⟨rfl, sc_corner_sums_in, ck_corner_sums_in, F12⟩
      · exact ⟨rfl, sc_growth, ck_growth, F13⟩
      · exact ⟨rfl, sc_need_both, ck_need_both, F14⟩
      · exact ⟨rfl, sc_steps, ck_steps, F15⟩
      · exact ⟨rfl, sc_come_in, ck_come_in, F16⟩
      · exact ⟨rfl, sc_order_in, ck_order_in, F17⟩
      · exact ⟨rfl, sc_longest, ck_longest, F18⟩
      · exact ⟨rfl, sc_law_taken, ck_law_taken, F19⟩
      · exact ⟨rfl, sc_law_pick, ck_law_pick, F20⟩
      · exact ⟨rfl, sc_law_order, ck_law_order, F21⟩
      · exact ⟨rfl, sc_law_lie, ck_law_lie, F22⟩
      · exact ⟨rfl, sc_law_drawn, ck_law_drawn, F23⟩
      · exact ⟨rfl, sc_law_rule, ck_law_rule, F24⟩
      · exact ⟨rfl, sc_law_signs, ck_law_signs, F25⟩
      · exact ⟨rfl, sc_law_book, ck_law_book, F26⟩
  exact ⟨_, fun s v => .of_eq rfl, fun base _ _ => law_def Z FL sc_law rfl ck_law⟩
end K06
open PySem PySem.W PyProof.Rows
set_option maxHeartbeats 0 in
theorem PySem.Challenge.cw_twelveways_k06_whole_square_runs_holds : PySem.Challenge.rw_twelveways_k06_whole_square_runs.Holds := by
  w_on; o_law; k_head; (case hw => w_witness2)
  k_fill
  refine L2.walk_of (l := PySem.Challenge.rw_twelveways_k06_whole_square_runs) (n := 63) (k := K06.depth + 1) (x := "_law_script") (CX := fun w => L2.CX PySem.Challenge.rw_twelveways_k06_whole_square_runs.prog w) (sp := fun w => Tw.spL _ Tw.GT K06.depth Tw.f_law_k06) rfl (by decide) rfl ⟨rfl, by decide, by decide⟩ (fun w h Y => PySem.W.kIn_of Y) ?F (fun w H a ns hl hO hS => by obtain ⟨F, m, e⟩ := K06.law_true ns hl; exact ⟨rfl, a, ns, F, m, rfl, hO, hS, e, fun _ => rfl⟩) ?C
  case C => exact fun w H s e s1 h => by obtain ⟨_, _, _, _, _, _, _, _, _, _, _, _, h⟩ := h; exact h
  case F =>
    intro w mg fa h KX G hmg
    refine' K06.all_mk KX G hmg ?a1 ?l1 ?c1 ?k1 ?a2 ?l2 ?c2 ?k2 ?a3 ?l3 ?c3 ?k3 ?a4 ?l4 ?c4 ?k4 ?a5 ?l5 ?c5 ?k5 ?a6 ?l6 ?c6 ?k6 ?a7 ?l7 ?c7 ?k7 ?a8 ?l8 ?c8 ?k8 ?a9 ?l9 ?c9 ?k9 ?a10 ?l10 ?c10 ?k10 ?a11 ?l11 ?c11 ?k11 ?a12 ?l12 ?c12 ?k12 ?a13 ?l13 ?c13 ?k13 ?a14 ?l14 ?c14 ?k14 ?a15 ?l15 ?c15 ?k15 ?a16 ?l16 ?c16 ?k16 ?a17 ?l17 ?c17 ?k17 ?a18 ?l18 ?c18 ?k18 ?a19 ?l19 ?c19 ?k19 ?a20 ?l20 ?c20 ?k20 ?a21 ?l21 ?c21 ?k21 ?a22 ?l22 ?c22 ?k22 ?a23 ?l23 ?c23 ?k23 ?a24 ?l24 ?c24 ?k24 ?a25 ?l25 ?c25 ?k25 ?a26 ?l26 ?c26 ?k26 ?a27 ?l27 ?c27 ?k27 ?z0 ?z1 ?z2 ?z3 ?z4 ?z5 ?z6 ?z7 ?z8 ?z9 ?z10 ?z11 ?z12 ?z13 ?z14 ?z15 ?z16 ?n0 ?n1 ?n2 ?t0 ?u0
    (case a1 => k_is); (case l1 => k_is); (case c1 => k_is); (case k1 => k_is); (case a2 => k_is); (case l2 => k_is); (case c2 => k_is); (case k2 => k_is); (case a3 => k_is); (case l3 => k_is); (case c3 => k_is); (case k3 => k_is); (case a4 => k_is); (case l4 => k_is); (case c4 => k_is); (case k4 => k_is); (case a5 => k_is); (case l5 => k_is); (case c5 => k_is); (case k5 => k_is); (case a6 => k_is); (case l6 => k_is); (case c6 => k_is); (case k6 => k_is); (case a7 => k_is); (case l7 => k_is); (case c7 => k_is); (case k7 => k_is); (case a8 => k_is); (case l8 => k_is); (case c8 => k_is); (case k8 => k_is); (case a9 => k_is); (case l9 => k_is); (case c9 => k_is); (case k9 => k_is); (case a10 => k_is); (case l10 => k_is); (case c10 => k_is); (case k10 => k_is); (case a11 => k_is); (case l11 => k_is); (case c11 => k_is); (case k11 => k_is); (case a12 => k_is); (case l12 => k_is); (case c12 => k_is); (case k12 => k_is); (case a13 => k_is); (case l13 => k_is); (case c13 => k_is); (case k13 => k_is); (case a14 => k_is); (case l14 => k_is); (case c14 => k_is); (case k14 => k_is); (case a15 => k_is); (case l15 => k_is); (case c15 => k_is); (case k15 => k_is); (case a16 => k_is); (case l16 => k_is); (case c16 => k_is); (case k16 => k_is); (case a17 => k_is); (case l17 => k_is); (case c17 => k_is); (case k17 => k_is); (case a18 => k_is); (case l18 => k_is); (case c18 => k_is); (case k18 => k_is); (case a19 => k_is); (case l19 => k_is); (case c19 => k_is); (case k19 => k_is); (case a20 => k_is); (case l20 => k_is); (case c20 => k_is); (case k20 => k_is); (case a21 => k_is); (case l21 => k_is); (case c21 => k_is); (case k21 => k_is); (case a22 => k_is); (case l22 => k_is); (case c22 => k_is); (case k22 => k_is); (case a23 => k_is); (case l23 => k_is); (case c23 => k_is); (case k23 => k_is); (case a24 => k_is); (case l24 => k_is); (case c24 => k_is); (case k24 => k_is); (case a25 => k_is); (case l25 => k_is); (case c25 => k_is); (case k25 => k_is); (case a26 => k_is); (case l26 => k_is); (case c26 => k_is); (case k26 => k_is); (case a27 => k_is); (case l27 => k_is); (case c27 => k_is); (case k27 => k_is); (case z0 => k_is); (case z1 => k_is); (case z2 => k_is); (case z3 => k_is); (case z4 => k_is); (case z5 => k_is); (case z6 => k_is); (case z7 => k_is); (case z8 => k_is); (case z9 => k_is); (case z10 => k_is); (case z11 => k_is); (case z12 => k_is); (case z13 => k_is); (case z14 => k_is); (case z15 => k_is); (case z16 => k_is); (case n0 => k_is); (case n1 => k_is); (case n2 => k_is); (case t0 => k_is); (case u0 => k_is)
namespace K06
end K06
