import PyProof.Rows.All
import HandS.ForMost
import HandS.Deep
import HandS.Gcd
import HandS.Style
import HandS.Wide
import HandS.TupAny
import HandS.SortInts
import PyProof.SumWalk
import PyProof.SumAny
import PyProof.ListOps
import KE.SortData
import KE.KDictSum
import KE.OsSortAny
import HandS.SortOrd
import HandS.Conv
import HandS.SetBool
import HandS.Strs
import HandS.SetFor
import HandS.Walk
import HandS.Zip
import PySem.Challenge.RW_gridkept_k19_main_plain_grids_and_four_s
import Wide.All
import OpenK.AllK
import Wide.FinOn
set_option Elab.async false
set_option linter.all false
set_option maxRecDepth 100000
/-! A by-value interpreter of a pure part of Python: data (PyData), expressions (Xp), statements (Sm). No heap here. -/
namespace Pv
open PySem

abbrev D := PyData

/-! ### data -/
def toInts : List D → Option (List Int)
  | [] => some []
  | .int i :: r => (toInts r).map (i :: ·)
  | _ :: _ => none
def toBools : List D → Option (List Bool)
  | [] => some []
  | .bool i :: r => (toBools r).map (i :: ·)
  | _ :: _ => none
def toLists : List D → Option (List (List D))
  | [] => some []
  | .list i :: r => (toLists r).map (i :: ·)
  | _ :: _ => none
/-! no list, no dict anywhere -/
mutual
def flatD : D → Bool
  | .list _ | .dict _ => false
  | .tuple xs => flatDs xs
  | .none | .bool _ | .int _ | .str _ => true
def flatDs : List D → Bool
  | [] => true
  | x :: xs => flatD x && flatDs xs
end
/-- none, a bool, an int, a text -/
def scalD : D → Bool
  | .none | .bool _ | .int _ | .str _ => true
  | _ => false

inductive O2 where
  | add | sub | mul | fdiv | mod | pow | eq | ne | lt | le | gt | ge | isIn | notIn | is | isNot
  deriving DecidableEq

def mulOk (i j : Int) : Bool := decide (i.natAbs.log2 + j.natAbs.log2 < 1000000)
/-- a list's or text's greatest length -/
abbrev line : Nat := sizeLine

def isNoneD : D → Bool
  | .none => true
  | _ => false
def op2 : O2 → D → D → Option D
  | .add, .int i, .int j => some (.int (i + j))
  | .add, .list xs, .list ys => if xs.length + ys.length ≤ line then some (.list (xs ++ ys)) else none
  | .add, .tuple xs, .tuple ys => if xs.length + ys.length ≤ line then some (.tuple (xs ++ ys)) else none
  | .sub, .int i, .int j => some (.int (i - j))
  | .mul, .int i, .int j => if mulOk i j then some (.int (i * j)) else none
  | .mul, .list xs, .int k => if -(2 ^ 63) ≤ k ∧ k < 2 ^ 63 ∧ xs.length * k.toNat ≤ line then some (.list (List.replicate k.toNat xs).flatten) else none
  | .fdiv, .int i, .int j => if 0 < j ∧ j.natAbs.log2 < 9000 then some (.int (i / j)) else none
  | .mod, .int i, .int j => if 0 < j then some (.int (i % j)) else none
  | .pow, .int i, .int j => if 0 ≤ j ∧ j ≤ 1000000 ∧ i.natAbs < 2 ^ 64 then some (.int (i ^ j.toNat)) else none
  | .eq, x, y => if SeqAt.shaped x && SeqAt.shaped y then some (.bool (PyData.eqv x y)) else none
  | .ne, x, y => if SeqAt.shaped x && SeqAt.shaped y then some (.bool (!PyData.eqv x y)) else none
  | .lt, .int i, .int j => some (.bool (decide (i < j)))
  | .le, .int i, .int j => some (.bool (decide (i ≤ j)))
  | .gt, .int i, .int j => some (.bool (decide (j < i)))
  | .ge, .int i, .int j => some (.bool (decide (j ≤ i)))
  | .isIn, x, .list ys => if SeqAt.shaped x && SeqAt.shaped (.list ys) then some (.bool (ys.any fun z => PyData.eqv z x)) else none
  | .isIn, x, .tuple ys => if scalD x && ys.all scalD then some (.bool (ys.any fun z => PyData.eqv z x)) else none
  | .notIn, x, .list ys => if SeqAt.shaped x && SeqAt.shaped (.list ys) then some (.bool (!ys.any fun z => PyData.eqv z x)) else none
  | .notIn, x, .tuple ys => if scalD x && ys.all scalD then some (.bool (!ys.any fun z => PyData.eqv z x)) else none
  | .is, x, .none => some (.bool (isNoneD x))
  | .isNot, x, .none => some (.bool (!isNoneD x))
  | .is, .bool a, .bool b => some (.bool (decide (a = b)))
  | .isNot, .bool a, .bool b => some (.bool (!decide (a = b)))
  | _, _, _ => none

/-- the built-ins that are called by name -/
inductive Bi where
  | len | abs | int | min2 | max2 | min1 | max1 | list | all | any | sum | sumL | sorted | sortedL | gcd
  deriving DecidableEq

def leastOf : List Int → Int → Int
  | [], m => m
  | x :: r, m => leastOf r (if x < m then x else m)
def mostOf : List Int → Int → Int
  | [], m => m
  | x :: r, m => mostOf r (if m < x then x else m)
def insI (x : Int) : List Int → List Int
  | [] => [x]
  | y :: r => if x ≤ y then x :: y :: r else y :: insI x r
def sortI : List Int → List Int
  | [] => []
  | x :: r => insI x (sortI r)

def dedupI : List Int → List Int
  | [] => []
  | x :: r => if x ∈ r then dedupI r else x :: dedupI r
/-- sorted(set of them) -/
def setI (xs : List D) : Option D := (toInts xs).bind fun is => if (dedupI is).length < 64 then some (.list ((sortI (dedupI is)).map .int)) else none
/-- keys that are tuples of ints, sorted -/
def keyInts : List L2.Key → Option (List Int)
  | [] => some []
  | .inl i :: r => (keyInts r).map (i :: ·)
  | _ :: _ => none
def keysInts : List (List L2.Key) → Option (List (List Int))
  | [] => some []
  | k :: r => (keyInts k).bind fun x => (keysInts r).map (x :: ·)
def lexLe : List Int → List Int → Bool
  | [], _ => true
  | _ :: _, [] => false
  | x :: xs, y :: ys => if x = y then lexLe xs ys else decide (x < y)
def insL (x : List Int) : List (List Int) → List (List Int)
  | [] => [x]
  | y :: r => if lexLe x y then x :: y :: r else y :: insL x r
def sortL : List (List Int) → List (List Int)
  | [] => []
  | x :: r => insL x (sortL r)
/-- lists of ints; tuples of ints, none empty -/
def toLL : List D → Option (List (List Int))
  | [] => some []
  | .list x :: r => (toInts x).bind fun l => (toLL r).map (l :: ·)
  | _ :: _ => none
def toTT : List D → Option (List (List Int))
  | [] => some []
  | .tuple x :: r => (toInts x).bind fun l => if l.isEmpty then none else (toTT r).map (l :: ·)
  | _ :: _ => none
/-- may the argument be a list that is changed later -/
def bib : Bi → Bool
  | .sumL => false
  | _ => true
def bi : Bi → List D → Option D
  | .len, [.list xs] => some (.int xs.length)
  | .len, [.tuple xs] => some (.int xs.length)
  | .len, [.dict [(.none, .list xs)]] => some (.int xs.length)
  | .abs, [.int i] => some (.int (if i < 0 then -i else i))
  | .int, [.int i] => some (.int i)
  | .int, [.bool b] => some (.int (if b then 1 else 0))
  | .min2, [.int i, .int j] => some (.int (if j < i then j else i))
  | .max2, [.int i, .int j] => some (.int (if j > i then j else i))
  | .min1, [.list xs] => match toInts xs with
    | some (x :: r) => some (.int (leastOf r x))
    | _ => none
  | .max1, [.list xs] => match toInts xs with
    | some (x :: r) => some (.int (mostOf r x))
    | _ => none
  | .list, [.list xs] => some (.list xs)
  | .list, [.tuple xs] => some (.list xs)
  | .all, [.list xs] => (toBools xs).map fun bs => .bool (bs.all id)
  | .any, [.list xs] => (toBools xs).map fun bs => .bool (bs.any id)
  | .sum, [.list xs] => (toInts xs).map fun is => .int is.sum
  | .sumL, [.list xs, .list ys] => (toLists xs).bind fun ls => if ys.length + (ls.map List.length).sum ≤ line then some (.list (ys ++ ls.flatten)) else none
  | .sorted, [.list xs] => (toInts xs).map fun is => .list ((sortI is).map .int)
  | .sortedL, [.list xs] => match toLL xs with
    | some ls => some (.list ((sortL ls).map fun l => .list (l.map .int)))
    | none => (toTT xs).map fun ls => .list ((sortL ls).map fun l => .tuple (l.map .int))
  | .gcd, [.int a, .int b] => some (.int ((Nat.gcd a.natAbs b.natAbs : Nat) : Int))
  | _, _ => none

/-! ### the environment: by slots -/
inductive Ent where
  | no
  | val (d : D)
  /-- a list of the def's own that it may change -/
  | own (ds : List D)
  /-- a list of lists, all of the def's own -/
  | own2 (dss : List (List D))
  /-- a dict of the def's own, its keys tuples of ints and texts; ints or texts -/
  | dcT (kvs : List (List L2.Key × D))
  | dcK (kvs : List (L2.Key × D))
abbrev En := List Ent

def rd (b : Bool) (ρ : En) (i : Nat) : Option D := match ρ.getD i .no with
  | .val d => some d
  | .own ds => if b then some (.list ds) else none
  | _ => none
def isOwn (ρ : En) (i : Nat) : Bool := match ρ.getD i .no with
  | .own _ => true
  | _ => false
def wipeE (ρ : En) : List Nat → En
  | [] => ρ
  | v :: vs => (wipeE ρ vs).set v .no

/-! ### the syntax -/
inductive Cn where
  | none | bool (b : Bool) | int (i : Int) | str (s : Str)
  deriving DecidableEq
def Cn.d : Cn → D
  | .none => .none
  | .bool b => .bool b
  | .int i => .int i
  | .str s => .str s

mutual
inductive Pat where
  | nm (i : Nat)
  | tp (ps : Pats)
inductive Pats where
  | nil
  | cons (p : Pat) (ps : Pats)
end
mutual
def bindPat : Pat → D → En → Option En
  | .nm i, d, ρ => some (ρ.set i (.val d))
  | .tp ps, .tuple ds, ρ => bindPats ps ds ρ
  | .tp _, _, _ => none
def bindPats : Pats → List D → En → Option En
  | .nil, [], ρ => some ρ
  | .cons p ps, d :: ds, ρ => (bindPat p d ρ).bind fun ρ' => bindPats ps ds ρ'
  | _, _, _ => none
end

mutual
inductive Xp where
  | var (i : Nat)
  | con (c : Cn)
  /-- a module's constant -/
  | glb (x : Str) (i : Int)
  | op (o : O2) (a b : Xp)
  | ch (o1 o2 : O2) (a b c : Xp)
  | ch3 (o1 o2 o3 : O2) (a b c d : Xp)
  | neg (a : Xp)
  | not (a : Xp)
  | bool (isAnd : Bool) (es : Xps)
  | ife (c a b : Xp)
  | tup (es : Xps)
  | lst (es : Xps)
  | idx (a i : Xp)
  | cut (a : Xp) (lo hi : Option Xp)
  | rev (a : Xp)
  | bi (f : Bi) (es : Xps)
  | call (f : Str) (es : Xps)
  /-- a call that is handed lists that the def may change later -/
  | callB (f : Str) (es : Xps)
  | lc (e : Xp) (p : Pat) (it : Xi) (ifs : Xps) (own : List Nat)
  | lc2 (e : Xp) (p : Pat) (it : Xi) (ifs : Xps) (p2 : Pat) (it2 : Xi) (ifs2 : Xps) (own own2 : List Nat)
  /-- list(range(..)) -/
  | lrng (es : Xps)
  /-- sorted({e for .. if ..}), ints; two clauses -/
  | ssc (e : Xp) (p : Pat) (it : Xi) (ifs : Xps) (own : List Nat)
  | ssc2 (e : Xp) (p : Pat) (it : Xi) (ifs : Xps) (p2 : Pat) (it2 : Xi) (ifs2 : Xps) (own own2 : List Nat)
  /-- sorted(set(e)), len(set(e)), ints -/
  | sst (e : Xp)
  | lset (e : Xp)
  /-- sorted(d), d a dict of the def's own with keys that are tuples of ints -/
  | skeys (i : Nat)
inductive Xps where
  | nil
  | cons (e : Xp) (es : Xps)
inductive Xi where
  | seq (e : Xp)
  | rng (es : Xps)
  | enum (e : Xp)
  | zip (a b : Xp)
end

/-! ### evaluation -/
structure Cfg where
  C : Str → List D → Option D
  Fr : Str → Bool

mutual

def frE (Fr : Str → Bool) : Xp → Bool
  | .lst _ | .lc .. | .lc2 .. | .cut .. | .rev _ | .lrng _ | .ssc .. | .ssc2 .. | .sst _ | .skeys _ => true
  | .op .add _ _ | .op .mul _ _ => true
  | .bi .list _ | .bi .sorted _ | .bi .sortedL _ => true
  | .call f _ => Fr f
  | .callB f _ => Fr f
  | .ife _ a b => frE Fr a && frE Fr b
  | _ => false
end
/-- what a call that was handed own lists may give -/
def flatRes (fr : Bool) : D → Bool
  | .list ds => fr && flatDs ds
  | d => flatD d

def lcGo (f : D → Option (Option D)) : List D → Option (List D)
  | [] => some []
  | x :: xs => (f x).bind fun o => (lcGo f xs).map fun ys => match o with
    | some y => y :: ys
    | none => ys
def lcGo2 (f : D → Option (List D)) : List D → Option (List D)
  | [] => some []
  | x :: xs => (f x).bind fun o => (lcGo2 f xs).map fun ys => o ++ ys
def cutD (xs : List D) (lo hi : Option Int) : List D := (xs.drop (HT.sIx xs.length 0 lo)).take (HT.sIx xs.length xs.length hi - HT.sIx xs.length 0 lo)
def asInt : D → Option Int
  | .int i => some i
  | _ => none
def asBool : D → Option Bool
  | .bool b => some b
  | _ => none
def seqOf : D → Option (List D)
  | .list xs => some xs
  | .tuple xs => some xs
  | _ => none
/-- what may be subscripted; the script stands as .dict [(.none, its list)]: it is read only -/
def seqIx : D → Option (List D)
  | .list xs => some xs
  | .tuple xs => some xs
  | .dict [(.none, .list xs)] => some xs
  | _ => none
def rngOk (i : Int) : Bool := decide (-(2 ^ 62) ≤ i) && decide (i < 2 ^ 62)
def rngD (lo : Int) (n : Nat) : List D := (List.range n).map fun k => .int (lo + (k : Nat))
def enumD : Nat → List D → List D
  | _, [] => []
  | n, x :: xs => .tuple [.int (n : Nat), x] :: enumD (n + 1) xs
def zipD : List D → List D → List D
  | x :: xs, y :: ys => .tuple [x, y] :: zipD xs ys
  | _, _ => []

mutual
def ev (G : Cfg) (b : Bool) : Xp → En → Option D
  | .var i, ρ => rd b ρ i
  | .con c, _ => some c.d
  | .glb _ i, _ => some (.int i)
  | .op o x y, ρ => (ev G true x ρ).bind fun dx => (ev G true y ρ).bind fun dy => op2 o dx dy
  | .ch o1 o2 x y z, ρ => (ev G true x ρ).bind fun dx => (ev G true y ρ).bind fun dy => (op2 o1 dx dy).bind fun r => (asBool r).bind fun t =>
      if t then (ev G true z ρ).bind fun dz => op2 o2 dy dz else some (.bool false)
  | .ch3 o1 o2 o3 x y z u, ρ => (ev G true x ρ).bind fun dx => (ev G true y ρ).bind fun dy => (op2 o1 dx dy).bind fun r => (asBool r).bind fun t =>
      if t then (ev G true z ρ).bind fun dz => (op2 o2 dy dz).bind fun r2 => (asBool r2).bind fun t2 =>
        if t2 then (ev G true u ρ).bind fun du => op2 o3 dz du else some (.bool false)
      else some (.bool false)
  | .neg x, ρ => (ev G false x ρ).bind fun d => (asInt d).map fun i => .int (-i)
  | .not x, ρ => (ev G false x ρ).bind fun d => (asBool d).map fun t => .bool (!t)
  | .bool isAnd es, ρ => evBool G isAnd es ρ
  | .ife c x y, ρ => (ev G false c ρ).bind fun d => (asBool d).bind fun t => if t then ev G false x ρ else ev G false y ρ
  | .tup es, ρ => (evs G false es ρ).bind fun ds => if ds.length ≤ line then some (.tuple ds) else none
  | .lst es, ρ => (evs G false es ρ).bind fun ds => if ds.length ≤ line then some (.list ds) else none
  | .idx x i, ρ => (ev G true x ρ).bind fun d => (ev G false i ρ).bind fun k => (seqIx d).bind fun xs => (asInt k).bind fun j => L2.atI xs j
  | .cut x lo hi, ρ => (ev G true x ρ).bind fun d => (evPart G lo ρ).bind fun l => (evPart G hi ρ).bind fun h => match d with
    | .list xs => some (.list (cutD xs l h))
    | _ => none
  | .rev x, ρ => (ev G true x ρ).bind fun d => match d with
    | .list xs => some (.list xs.reverse)
    | _ => none
  | .bi f es, ρ => (evs G (bib f) es ρ).bind fun ds => bi f ds
  | .call f es, ρ => (evs G false es ρ).bind fun ds => G.C f ds
  | .callB f es, ρ => (evs G true es ρ).bind fun ds => (G.C f ds).bind fun d => if flatRes (G.Fr f) d then some d else none
  | .lc e p it ifs own, ρ => (evIt G true it ρ).bind fun xs =>
      (lcGo (fun x => (bindPat p x (wipeE ρ own)).bind fun ρ1 => (evIfs G ifs ρ1).bind fun c => if c then (ev G false e ρ1).map some else some none) xs).bind fun ys =>
        if ys.length < line then some (.list ys) else none
  | .lc2 e p it ifs p2 it2 ifs2 own own2, ρ => (evIt G true it ρ).bind fun xs =>
      (lcGo2 (fun x => (bindPat p x (wipeE ρ own)).bind fun ρ1 => (evIfs G ifs ρ1).bind fun c => if c then (evIt G false it2 ρ1).bind fun xs2 =>
          lcGo (fun x2 => (bindPat p2 x2 (wipeE ρ1 own2)).bind fun ρ2 => (evIfs G ifs2 ρ2).bind fun c2 => if c2 then (ev G false e ρ2).map some else some none) xs2
        else some []) xs).bind fun ys => if ys.length < line then some (.list ys) else none
  | .lrng es, ρ => (evs G false es ρ).bind fun ds => match ds with
    | [.int n] => if rngOk n && decide (n.toNat ≤ 2 ^ 24) then some (.list (rngD 0 n.toNat)) else none
    | [.int a, .int n] => if rngOk a && rngOk n && decide ((n - a).toNat ≤ 2 ^ 24) then some (.list (rngD a (n - a).toNat)) else none
    | _ => none
  | .ssc e p it ifs own, ρ => (evIt G true it ρ).bind fun xs =>
      (lcGo (fun x => (bindPat p x (wipeE ρ own)).bind fun ρ1 => (evIfs G ifs ρ1).bind fun c => if c then (ev G false e ρ1).map some else some none) xs).bind fun ys =>
        if ys.length < 1000 then setI ys else none
  | .ssc2 e p it ifs p2 it2 ifs2 own own2, ρ => (evIt G true it ρ).bind fun xs =>
      (lcGo2 (fun x => (bindPat p x (wipeE ρ own)).bind fun ρ1 => (evIfs G ifs ρ1).bind fun c => if c then (evIt G false it2 ρ1).bind fun xs2 =>
          lcGo (fun x2 => (bindPat p2 x2 (wipeE ρ1 own2)).bind fun ρ2 => (evIfs G ifs2 ρ2).bind fun c2 => if c2 then (ev G false e ρ2).map some else some none) xs2
        else some []) xs).bind fun ys => if ys.length < 1000 then setI ys else none
  | .sst e, ρ => (ev G true e ρ).bind fun d => match d with
    | .list xs => if xs.length < 1000 then setI xs else none
    | _ => none
  | .lset e, ρ => (ev G true e ρ).bind fun d => match d with
    | .list xs => if xs.length < 1000 then (toInts xs).map fun is => .int (dedupI is).length else none
    | _ => none
  | .skeys i, ρ => match ρ.getD i .no with
    | .dcT kvs => (keysInts (kvs.map (·.1))).bind fun ks => if ks.all (fun k => !k.isEmpty) then some (.list ((sortL ks).map fun k => .tuple (k.map .int))) else none
    | _ => none
def evs (G : Cfg) (b : Bool) : Xps → En → Option (List D)
  | .nil, _ => some []
  | .cons e es, ρ => (ev G b e ρ).bind fun d => (evs G b es ρ).map fun ds => d :: ds
def evBool (G : Cfg) (isAnd : Bool) : Xps → En → Option D
  | .nil, _ => none
  | .cons e .nil, ρ => ev G false e ρ
  | .cons e (.cons e2 es), ρ => (ev G false e ρ).bind fun d => (asBool d).bind fun t => if t = isAnd then evBool G isAnd (.cons e2 es) ρ else some (.bool t)
def evIfs (G : Cfg) : Xps → En → Option Bool
  | .nil, _ => some true
  | .cons e .nil, ρ => (ev G false e ρ).bind asBool
  | .cons _ (.cons _ _), _ => none
def evPart (G : Cfg) : Option Xp → En → Option (Option Int)
  | none, _ => some none
  | some e, ρ => (ev G false e ρ).bind fun d => (asInt d).map some
def evIt (G : Cfg) (b : Bool) : Xi → En → Option (List D)
  | .seq e, ρ => (ev G b e ρ).bind seqOf
  | .rng es, ρ => (evs G false es ρ).bind fun ds => match ds with
    | [.int n] => if rngOk n then some (rngD 0 n.toNat) else none
    | [.int a, .int n] => if rngOk a && rngOk n then some (rngD a (n - a).toNat) else none
    | _ => none
  | .enum e, ρ => (ev G b e ρ).bind fun d => match d with
    | .list xs => some (enumD 0 xs)
    | _ => none
  | .zip x y, ρ => (ev G b x ρ).bind fun d => (ev G b y ρ).bind fun d2 => match d, d2 with
    | .list xs, .list ys => some (zipD xs ys)
    | _, _ => none
end
end Pv

set_option Elab.async false
set_option linter.all false
set_option maxRecDepth 100000
/-! Statements, and calls by a level. -/
namespace Pv
open PySem

mutual
inductive Sm where
  | asg (own : Bool) (i : Nat) (e : Xp)
  | asgp (p : Pat) (e : Xp)
  | par (is : List Nat) (es : Xps)
  | app (i : Nat) (e : Xp)
  | ext (i : Nat) (e : Xp)
  | seti (i : Nat) (k v : Xp)
  | own2 (i n : Nat)
  | app2 (i : Nat) (k v : Xp)
  | newd (tup : Bool) (i : Nat)
  | put (i : Nat) (k v : Xp)
  | aug (i : Nat) (o : O2) (e : Xp)
  | ret (e : Xp)
  | retn
  | ite (c : Xp) (a b : Sms)
  | for (p : Pat) (it : Xi) (b : Sms) (kill : List Nat)
  | whl (c : Xp) (b : Sms) (kill : List Nat)
  | brk | cnt | pas
  /-- a value dropped -/
  | exp (e : Xp)
  | kil (is : List Nat)
  | frz (i : Nat)
  | nev
inductive Sms where
  | nil
  | cons (s : Sm) (ss : Sms)
end

inductive Fl where
  | nx | brk | cnt
  | ret (fr : Bool) (d : D)

def forGo (f : D → En → Option (Fl × En)) (kill : List Nat) : List D → En → Option (Fl × En)
  | [], ρ => some (.nx, ρ)
  | x :: xs, ρ => (f x ρ).bind fun r => match r with
    | (.nx, ρ') => forGo f kill xs (wipeE ρ' kill)
    | (.cnt, ρ') => forGo f kill xs (wipeE ρ' kill)
    | (.brk, ρ') => some (.nx, wipeE ρ' kill)
    | (.ret fr d, ρ') => some (.ret fr d, ρ')
def whlGo (c : En → Option Bool) (f : En → Option (Fl × En)) (kill : List Nat) : Nat → En → Option (Fl × En)
  | 0, _ => none
  | n + 1, ρ => (c ρ).bind fun t => if t then (f ρ).bind fun r => match r with
      | (.nx, ρ') => whlGo c f kill n (wipeE ρ' kill)
      | (.cnt, ρ') => whlGo c f kill n (wipeE ρ' kill)
      | (.brk, ρ') => some (.nx, wipeE ρ' kill)
      | (.ret fr d, ρ') => some (.ret fr d, ρ')
    else some (.nx, ρ)
def sets (ρ : En) : List Nat → List D → Option En
  | [], [] => some ρ
  | i :: is, d :: ds => sets (ρ.set i (.val d)) is ds
  | _, _ => none
def getO (ρ : En) (i : Nat) : Option (List D) := match ρ.getD i .no with
  | .own ds => some ds
  | _ => none
def getO2 (ρ : En) (i : Nat) : Option (List (List D)) := match ρ.getD i .no with
  | .own2 ds => some ds
  | _ => none
def keyOf : D → Option L2.Key
  | .int i => some (.inl i)
  | .str x => some (.inr x)
  | _ => none
def keysOf : List D → Option (List L2.Key)
  | [] => some []
  | x :: xs => (keyOf x).bind fun k => (keysOf xs).map fun ks => k :: ks
def putD {κ : Type} [DecidableEq κ] (kvs : List (κ × D)) (k : κ) (v : D) : List (κ × D) :=
  if kvs.any fun kv => decide (kv.1 = k) then kvs.map fun kv => if kv.1 = k then (kv.1, v) else kv else kvs ++ [(k, v)]
def putE (e : Ent) (k v : D) : Option Ent := match e, k with
  | .dcT kvs, .tuple ks => (keysOf ks).bind fun ks' => if kvs.length < line then some (.dcT (putD kvs ks' v)) else none
  | .dcK kvs, k => (keyOf k).bind fun k' => if kvs.length < line then some (.dcK (putD kvs k' v)) else none
  | _, _ => none

mutual
def ex (G : Cfg) (N : Nat) : Sm → En → Option (Fl × En)
  | .asg own i e, ρ => (ev G false e ρ).bind fun d => if own then (match d with
      | .list ds => if frE G.Fr e then some (.nx, ρ.set i (.own ds)) else none
      | _ => none) else some (.nx, ρ.set i (.val d))
  | .asgp p e, ρ => (ev G false e ρ).bind fun d => (bindPat p d ρ).map fun ρ' => (.nx, ρ')
  | .par is es, ρ => (evs G false es ρ).bind fun ds => (sets ρ is ds).map fun ρ' => (.nx, ρ')
  | .app i e, ρ => (ev G false e ρ).bind fun d => (getO ρ i).bind fun ds => if ds.length < line then some (.nx, ρ.set i (.own (ds ++ [d]))) else none
  | .ext i e, ρ => (ev G true e ρ).bind fun d => (getO ρ i).bind fun ds => match d with
      | .list es => if ds.length + es.length ≤ line then some (.nx, ρ.set i (.own (ds ++ es))) else none
      | _ => none
  | .seti i k v, ρ => (ev G false v ρ).bind fun dv => (ev G false k ρ).bind fun dk => (asInt dk).bind fun j => (getO ρ i).bind fun ds => (L2.ixN ds.length j).bind fun m =>
      some (.nx, ρ.set i (.own (ds.set m dv)))
  | .own2 i n, ρ => some (.nx, ρ.set i (.own2 (List.replicate n [])))
  | .app2 i k v, ρ => (ev G false k ρ).bind fun dk => (ev G false v ρ).bind fun dv => (asInt dk).bind fun j => (getO2 ρ i).bind fun dss => (L2.ixN dss.length j).bind fun m => (dss[m]?).bind fun ds =>
      if ds.length < line then some (.nx, ρ.set i (.own2 (dss.set m (ds ++ [dv])))) else none
  | .newd tup i, ρ => some (.nx, ρ.set i (if tup then .dcT [] else .dcK []))
  | .put i k v, ρ => (ev G false v ρ).bind fun dv => (ev G false k ρ).bind fun dk => (putE (ρ.getD i .no) dk dv).map fun e => (.nx, ρ.set i e)
  | .aug i o e, ρ => (rd false ρ i).bind fun x => (ev G false e ρ).bind fun y => match x, y with
      | .int _, .int _ => (op2 o x y).map fun d => (.nx, ρ.set i (.val d))
      | _, _ => none
  | .ret e, ρ => (ev G false e ρ).map fun d => (.ret (frE G.Fr e) d, ρ)
  | .retn, ρ => some (.ret false .none, ρ)
  | .ite c a b, ρ => (ev G false c ρ).bind fun d => (asBool d).bind fun t => if t then exs G N a ρ else exs G N b ρ
  | .for p it b kill, ρ => (evIt G false it ρ).bind fun xs => forGo (fun x ρ => (bindPat p x ρ).bind fun ρ1 => exs G N b ρ1) kill xs ρ
  | .whl c b kill, ρ => whlGo (fun ρ => (ev G false c ρ).bind asBool) (fun ρ => exs G N b ρ) kill N ρ
  | .brk, ρ => some (.brk, ρ)
  | .exp e, ρ => (ev G false e ρ).map fun _ => (.nx, ρ)
  | .cnt, ρ => some (.cnt, ρ)
  | .pas, ρ => some (.nx, ρ)
  | .kil is, ρ => some (.nx, wipeE ρ is)
  | .frz i, ρ => match ρ.getD i .no with
      | .own ds => some (.nx, ρ.set i (.val (.list ds)))
      | .own2 dss => some (.nx, ρ.set i (.val (.list (dss.map .list))))
      | .val d => some (.nx, ρ.set i (.val d))
      | _ => none
  | .nev, _ => none
def exs (G : Cfg) (N : Nat) : Sms → En → Option (Fl × En)
  | .nil, ρ => some (.nx, ρ)
  | .cons s ss, ρ => (ex G N s ρ).bind fun r => match r with
    | (.nx, ρ') => exs G N ss ρ'
    | r => some r
end

/-- a def: its parameters, its names (parameters first), its body; fr: what it returns, where it is a list, is a new one -/
structure PDef where
  np : Nat
  nn : Nat
  fr : Bool
  body : Sms
abbrev Tab := List (Str × PDef)
def Tab.frs (T : Tab) (f : Str) : Bool := match T.lookup f with
  | some d => d.fr
  | none => false
def runDef (G : Cfg) (N : Nat) (d : PDef) (ds : List D) : Option D :=
  if ds.length = d.np then (exs G N d.body (ds.map .val ++ List.replicate (d.nn - d.np) .no)).bind fun r => match r.1 with
    | .ret fr v => if d.fr && !fr then none else some v
    | .nx => if d.fr then none else some .none
    | _ => none
  else none
/-- a call, at a level -/
def cal (T : Tab) (N : Nat) : Nat → Str → List D → Option D
  | 0, _, _ => none
  | k + 1, f, ds => (T.lookup f).bind fun d => runDef ⟨cal T N k, T.frs⟩ N d ds
end Pv

set_option Elab.async false
set_option linter.all false
set_option maxRecDepth 100000
set_option maxHeartbeats 1000000
/-! What stands for data in the abstract heap; operators. -/
namespace Pv
open PySem PySem.Spec PyProof.Rows L2

mutual
inductive Rp (K : PySem.W.Frag) (F : Hp) : V → D → Prop
  | non : Rp K F .non .none
  | bl (b : Bool) : Rp K F (.bl b) (.bool b)
  | int (i : Int) : Rp K F (.int i) (.int i)
  | str (x : Str) : Rp K F (.str x) (.str x)
  | lst {a : Addr} {xs : List V} {ds : List D} : F a = some (.lst xs) → Rps K F xs ds → Rp K F (.ref a) (.list ds)
  | tup {a : Addr} {xs : List V} {ds : List D} : F a = some (.tup xs) → Rps K F xs ds → Rp K F (.ref a) (.tuple ds)
  | scr {a : Addr} {ns : List Int} : SqL K F a (ns.map V.int) → Rp K F (.ref a) (.dict [(.none, .list (ns.map .int))])
inductive Rps (K : PySem.W.Frag) (F : Hp) : List V → List D → Prop
  | nil : Rps K F [] []
  | cons {v : V} {vs : List V} {d : D} {ds : List D} : Rp K F v d → Rps K F vs ds → Rps K F (v :: vs) (d :: ds)
end

section
variable {K : PySem.W.Frag} {F F' H H' : Hp}
mutual
theorem Rp.mono (s : Same F F') : ∀ {v : V} {d : D}, Rp K F v d → Rp K F' v d
  | _, _, .non => .non
  | _, _, .bl b => .bl b
  | _, _, .int i => .int i
  | _, _, .str x => .str x
  | _, _, .lst h r => .lst (s _ _ h) (Rps.mono s r)
  | _, _, .tup h r => .tup (s _ _ h) (Rps.mono s r)
  | _, _, .scr h => .scr (s.seq h)
theorem Rps.mono (s : Same F F') : ∀ {vs : List V} {ds : List D}, Rps K F vs ds → Rps K F' vs ds
  | _, _, .nil => .nil
  | _, _, .cons h r => .cons (Rp.mono s h) (Rps.mono s r)
end
theorem Rps.length : ∀ {vs : List V} {ds : List D}, Rps K F vs ds → vs.length = ds.length
  | _, _, .nil => rfl
  | _, _, .cons _ r => by rw [List.length_cons, List.length_cons, Rps.length r]
theorem Rps.get : ∀ {vs : List V} {ds : List D} {i : Nat} {d : D}, Rps K F vs ds → ds[i]? = some d → ∃ v, vs[i]? = some v ∧ Rp K F v d
  | _, _, _, _, .nil, h => by simp at h
  | _, _, 0, _, .cons h _, e => by simp at e; subst e; exact ⟨_, rfl, h⟩
  | _, _, i + 1, d, .cons _ r, e => by
    obtain ⟨v, h1, h2⟩ := Rps.get (i := i) (d := d) r (by simpa using e)
    exact ⟨v, by simpa using h1, h2⟩
theorem Rps.getV : ∀ {vs : List V} {ds : List D} {i : Nat} {v : V}, Rps K F vs ds → vs[i]? = some v → ∃ d, ds[i]? = some d ∧ Rp K F v d
  | _, _, _, _, .nil, h => by simp at h
  | _, _, 0, _, .cons h _, e => by simp at e; subst e; exact ⟨_, rfl, h⟩
  | _, _, i + 1, v, .cons _ r, e => by
    obtain ⟨d, h1, h2⟩ := Rps.getV (i := i) (v := v) r (by simpa using e)
    exact ⟨d, by simpa using h1, h2⟩
theorem Rps.append : ∀ {vs ws : List V} {ds es : List D}, Rps K F vs ds → Rps K F ws es → Rps K F (vs ++ ws) (ds ++ es)
  | _, _, _, _, .nil, s => s
  | _, _, _, _, .cons h r, s => .cons h (Rps.append r s)
theorem Rps.take : ∀ {vs : List V} {ds : List D} (n : Nat), Rps K F vs ds → Rps K F (vs.take n) (ds.take n)
  | _, _, 0, _ => .nil
  | _, _, _ + 1, .nil => .nil
  | _, _, n + 1, .cons h r => .cons h (Rps.take n r)
theorem Rps.drop : ∀ {vs : List V} {ds : List D} (n : Nat), Rps K F vs ds → Rps K F (vs.drop n) (ds.drop n)
  | _, _, 0, r => r
  | _, _, _ + 1, .nil => .nil
  | _, _, n + 1, .cons _ r => Rps.drop n r
theorem Rps.reverse {vs : List V} {ds : List D} (h : Rps K F vs ds) : Rps K F vs.reverse ds.reverse := by
  induction vs generalizing ds with
  | nil => cases h; exact .nil
  | cons v vs ih =>
    cases h with
    | cons h1 h2 =>
      rw [List.reverse_cons, List.reverse_cons]
      exact (ih h2).append (.cons h1 .nil)
theorem Rps.rep {vs : List V} {ds : List D} (h : Rps K F vs ds) : ∀ k : Nat, Rps K F (List.replicate k vs).flatten (List.replicate k ds).flatten
  | 0 => .nil
  | k + 1 => by
    rw [List.replicate_succ, List.replicate_succ, List.flatten_cons, List.flatten_cons]
    exact h.append (Rps.rep h k)
theorem Rps.set {v : V} {d : D} (hv : Rp K F v d) : ∀ {vs : List V} {ds : List D} (i : Nat), Rps K F vs ds → Rps K F (vs.set i v) (ds.set i d)
  | _, _, _, .nil => .nil
  | _, _, 0, .cons _ r => .cons hv r
  | _, _, i + 1, .cons h r => .cons h (Rps.set hv i r)
theorem Rps.ints : ∀ {vs : List V} {ds : List D} {ns : List Int}, Rps K F vs ds → toInts ds = some ns → vs = ns.map V.int ∧ ds = ns.map .int
  | _, _, ns, .nil, e => by
    cases (show some [] = some ns from e); exact ⟨rfl, rfl⟩
  | _, _, ns, .cons (d := .int i) h r, e => by
    have e' : (toInts _).map (i :: ·) = some ns := e
    cases h
    cases q : toInts _ with
    | none => rw [q] at e'; cases e'
    | some ms =>
      rw [q] at e'
      cases (show some (i :: ms) = some ns from e')
      obtain ⟨h1, h2⟩ := Rps.ints r q
      exact ⟨by rw [h1]; rfl, by rw [h2]; rfl⟩
  | _, _, _, .cons (d := .none) _ _, e | _, _, _, .cons (d := .bool _) _ _, e | _, _, _, .cons (d := .str _) _ _, e | _, _, _, .cons (d := .list _) _ _, e | _, _, _, .cons (d := .tuple _) _ _, e | _, _, _, .cons (d := .dict _) _ _, e => by cases e
theorem Rps.bools : ∀ {vs : List V} {ds : List D} {bs : List Bool}, Rps K F vs ds → toBools ds = some bs → vs = bs.map V.bl
  | _, _, ns, .nil, e => by
    cases (show some [] = some ns from e); rfl
  | _, _, ns, .cons (d := .bool i) h r, e => by
    have e' : (toBools _).map (i :: ·) = some ns := e
    cases h
    cases q : toBools _ with
    | none => rw [q] at e'; cases e'
    | some ms =>
      rw [q] at e'
      cases (show some (i :: ms) = some ns from e')
      rw [Rps.bools r q]; rfl
  | _, _, _, .cons (d := .none) _ _, e | _, _, _, .cons (d := .int _) _ _, e | _, _, _, .cons (d := .str _) _ _, e | _, _, _, .cons (d := .list _) _ _, e | _, _, _, .cons (d := .tuple _) _ _, e | _, _, _, .cons (d := .dict _) _ _, e => by cases e
theorem Rps.ofInts : ∀ ns : List Int, Rps K F (ns.map V.int) (ns.map .int)
  | [] => .nil
  | n :: r => .cons (.int n) (Rps.ofInts r)

/-! the layer's own relation -/
mutual
theorem Rp.dp : ∀ {v : V} {d : D}, Rp K F v d → d.canLay0 = true → Dp K F v d
  | _, _, .non, _ => .non
  | _, _, .bl b, _ => .bl b
  | _, _, .int i, _ => .int i
  | _, _, .str x, _ => .str x
  | _, _, .lst h r, c => .lst (SqL.of h) (Rps.dp r (by simpa [PyData.canLay0] using c))
  | _, _, .tup h r, c => .tup (SqT.of h) (Rps.dp r (by simpa [PyData.canLay0] using c))
  | _, _, .scr h, c => by simp [PyData.canLay0] at c
theorem Rps.dp : ∀ {vs : List V} {ds : List D}, Rps K F vs ds → PyData.canLayAll0 ds = true → DpAll K F vs ds
  | _, _, .nil, _ => .nil
  | _ :: _, d :: ds, .cons h r, c => by
    have c' : PyData.canLay0 d = true ∧ PyData.canLayAll0 ds = true := by simpa [PyData.canLayAll0] using c
    exact .cons (Rp.dp h c'.1) (Rps.dp r c'.2)
end
end

/-! ### what is hidden: the lists that some def may still change -/
open Classical in
noncomputable def hid (O : Addr → Prop) (H : Hp) : Hp := fun a => if O a then none else H a
theorem hid_iff {O : Addr → Prop} {H : Hp} {a : Addr} {o : HO} : hid O H a = some o ↔ ¬ O a ∧ H a = some o := by
  unfold hid
  by_cases h : O a
  · rw [if_pos h]; simp [h]
  · rw [if_neg h]; simp [h]
def MutO : HO → Prop
  | .lst _ | .dK _ | .dT _ | .ext _ => True
  | _ => False
def OM (O : Addr → Prop) (H : Hp) : Prop := ∀ a, O a → ∃ o, H a = some o ∧ MutO o
section
variable {K : PySem.W.Frag} {O O' : Addr → Prop} {H H' : Hp}
theorem OM.mono (h : OM O H) (s : Same H H') : OM O H' := fun a ha => let ⟨o, e, m⟩ := h a ha; ⟨o, s _ _ e, m⟩
theorem OM.sub (h : OM O H) (s : ∀ a, O' a → O a) : OM O' H := fun a ha => h a (s a ha)
theorem hid_same (s : Same H H') : Same (hid O H) (hid O H') := fun a o e => by
  obtain ⟨h1, h2⟩ := hid_iff.mp e
  exact hid_iff.mpr ⟨h1, s _ _ h2⟩
/-- newly hidden is only what was not there -/
theorem hid_new (s : Same H H') (h : ∀ a, O' a → O a ∨ H a = none) : Same (hid O H) (hid O' H') := fun a o e => by
  obtain ⟨h1, h2⟩ := hid_iff.mp e
  refine hid_iff.mpr ⟨fun z => ?_, s _ _ h2⟩
  rcases h a z with q | q
  · exact h1 q
  · rw [q] at h2; cases h2
theorem hid_less (h : ∀ a, O' a → O a) : Same (hid O H) (hid O' H) := fun a o e => by
  obtain ⟨h1, h2⟩ := hid_iff.mp e
  exact hid_iff.mpr ⟨fun z => h1 (h a z), h2⟩
theorem hid_sub : Same (hid O H) H := fun a o e => (hid_iff.mp e).2
theorem same_upd {p : Addr} {o : HO} (h : H p = none) : Same H (upd H p o) := fun b x e => by
  rw [upd_ne (ne_of_none e h)]
  exact e
/-- a hidden one is changed -/
theorem hid_upd {p : Addr} {o : HO} (h : O p) : Same (hid O H) (hid O (upd H p o)) := fun a x e => by
  obtain ⟨h1, h2⟩ := hid_iff.mp e
  have ne : a ≠ p := fun z => h1 (z ▸ h)
  exact hid_iff.mpr ⟨h1, by rw [upd_ne ne]; exact h2⟩
/-! flat data needs no list -/
mutual
theorem Rp.flat (om : OM O' H) : ∀ {v : V} {d : D}, Rp K (hid O H) v d → flatD d = true → Rp K (hid O' H) v d
  | _, _, .non, _ => .non
  | _, _, .bl b, _ => .bl b
  | _, _, .int i, _ => .int i
  | _, _, .str x, _ => .str x
  | _, _, .lst h r, c => by simp [flatD] at c
  | _, _, .tup h r, c => by
    obtain ⟨h1, h2⟩ := hid_iff.mp h
    refine .tup (hid_iff.mpr ⟨fun z => ?_, h2⟩) (Rps.flat om r (by simpa [flatD] using c))
    obtain ⟨o, e, m⟩ := om _ z
    rw [h2] at e
    cases e
    exact m
  | _, _, .scr h, c => by simp [flatD] at c
theorem Rps.flat (om : OM O' H) : ∀ {vs : List V} {ds : List D}, Rps K (hid O H) vs ds → flatDs ds = true → Rps K (hid O' H) vs ds
  | _, _, .nil, _ => .nil
  | _ :: _, d :: ds, .cons h r, c => by
    have c' : flatD d = true ∧ flatDs ds = true := by simpa [flatDs] using c
    exact .cons (Rp.flat om h c'.1) (Rps.flat om r c'.2)
end

/-! ### what an expression leaves -/
/-- a list that was not there -/
def Fresh (K : PySem.W.Frag) (O : Addr → Prop) (H H' : Hp) (v : V) (ds : List D) : Prop :=
  ∃ p vs, v = .ref p ∧ H p = none ∧ H' p = some (.lst vs) ∧ Rps K (hid (fun a => O a ∨ a = p) H') vs ds
def Post (K : PySem.W.Frag) (O : Addr → Prop) (H : Hp) (fr : Bool) (d : D) (Q : VK) : Prop :=
  ∀ v H', Same H H' → Rp K (hid O H') v d → (fr = true → ∀ ds, d = .list ds → Fresh K O H H' v ds) → Q v H'
/-- a value that is read at once: it may be a hidden list -/
def BRp (K : PySem.W.Frag) (O : Addr → Prop) (H : Hp) (v : V) (d : D) : Prop :=
  Rp K (hid O H) v d ∨ ∃ a vs ds, v = .ref a ∧ d = .list ds ∧ O a ∧ H a = some (.lst vs) ∧ Rps K (hid O H) vs ds
inductive BRps (K : PySem.W.Frag) (O : Addr → Prop) (H : Hp) : List V → List D → Prop
  | nil : BRps K O H [] []
  | cons {v : V} {vs : List V} {d : D} {ds : List D} : BRp K O H v d → BRps K O H vs ds → BRps K O H (v :: vs) (d :: ds)
theorem BRp.mono (s : Same H H') {v : V} {d : D} (h : BRp K O H v d) : BRp K O H' v d := by
  rcases h with h | ⟨a, vs, ds, e1, e2, ho, e3, r⟩
  · exact .inl (h.mono (hid_same s))
  · exact .inr ⟨a, vs, ds, e1, e2, ho, s _ _ e3, r.mono (hid_same s)⟩
theorem BRps.mono (s : Same H H') : ∀ {vs : List V} {ds : List D}, BRps K O H vs ds → BRps K O H' vs ds
  | _, _, .nil => .nil
  | _, _, .cons h r => .cons (h.mono s) (r.mono s)
theorem BRp.int {v : V} {i : Int} (h : BRp K O H v (.int i)) : v = .int i := by
  rcases h with h | ⟨a, vs, ds, e1, e2, _⟩
  · cases h; rfl
  · cases e2
theorem BRp.bool {v : V} {i : Bool} (h : BRp K O H v (.bool i)) : v = .bl i := by
  rcases h with h | ⟨a, vs, ds, e1, e2, _⟩
  · cases h; rfl
  · cases e2
theorem BRp.str {v : V} {i : Str} (h : BRp K O H v (.str i)) : v = .str i := by
  rcases h with h | ⟨a, vs, ds, e1, e2, _⟩
  · cases h; rfl
  · cases e2
theorem BRp.non {v : V} (h : BRp K O H v .none) : v = .non := by
  rcases h with h | ⟨a, vs, ds, e1, e2, _⟩
  · cases h; rfl
  · cases e2
theorem BRp.lst {v : V} {ds : List D} (h : BRp K O H v (.list ds)) : ∃ a vs, v = .ref a ∧ H a = some (.lst vs) ∧ Rps K (hid O H) vs ds := by
  rcases h with h | ⟨a, vs, ds', e1, e2, _, e3, r⟩
  · cases h with
    | lst h r => exact ⟨_, _, rfl, (hid_iff.mp h).2, r⟩
  · cases e2
    exact ⟨a, vs, e1, e3, r⟩
theorem BRp.tup {v : V} {ds : List D} (h : BRp K O H v (.tuple ds)) : ∃ a vs, v = .ref a ∧ H a = some (.tup vs) ∧ Rps K (hid O H) vs ds := by
  rcases h with h | ⟨a, vs, ds', e1, e2, _, e3, r⟩
  · cases h with
    | tup h r => exact ⟨_, _, rfl, (hid_iff.mp h).2, r⟩
  · cases e2
theorem SqL.same {a : Addr} {xs : List V} (h : SqL K (hid O H) a xs) : SqL K H a xs := hid_sub.seq h
/-- as the layer has it, over the whole heap -/
theorem BRp.dp {v : V} {d : D} (h : BRp K O H v d) (c : d.canLay0 = true) : Dp K H v d := by
  rcases h with h | ⟨a, vs, ds, e1, e2, _, e3, r⟩
  · exact (h.mono hid_sub).dp c
  · subst e1 e2
    exact .lst (SqL.of e3) ((r.mono hid_sub).dp (by simpa [PyData.canLay0] using c))
theorem BRps.length : ∀ {vs : List V} {ds : List D}, BRps K O H vs ds → vs.length = ds.length
  | _, _, .nil => rfl
  | _, _, .cons _ r => by rw [List.length_cons, List.length_cons, BRps.length r]
theorem Rps.b : ∀ {vs : List V} {ds : List D}, Rps K (hid O H) vs ds → BRps K O H vs ds
  | _, _, .nil => .nil
  | _, _, .cons h r => .cons (.inl h) (Rps.b r)

/-- a scalar's post -/
theorem Post.here {fr : Bool} {d : D} {Q : VK} {v : V} (h : Post K O H fr d Q) (r : Rp K (hid O H) v d) (n : ∀ ds, d ≠ .list ds) : Q v H :=
  h v H (Same.refl H) r fun _ ds e => absurd e (n ds)
/-- a new list's post -/
theorem Post.new {fr : Bool} {ds : List D} {Q : VK} {vs : List V} {p : Addr} (h : Post K O H fr (.list ds) Q) (om : OM O H) (np : H p = none) (r : Rps K (hid O H) vs ds) : Q (.ref p) (upd H p (.lst vs)) := by
  have nO : ¬ O p := fun z => by
    obtain ⟨o, e, _⟩ := om p z
    rw [np] at e; cases e
  refine h _ _ (same_upd np) (.lst (hid_iff.mpr ⟨nO, upd_same⟩) (r.mono (hid_same (same_upd np)))) fun _ ds' e => ?_
  cases e
  exact ⟨p, vs, rfl, np, upd_same, r.mono (hid_new (same_upd np) fun a ha => ha.elim .inl fun e => .inr (e ▸ np))⟩
theorem Post.newT {fr : Bool} {ds : List D} {Q : VK} {vs : List V} {p : Addr} (h : Post K O H fr (.tuple ds) Q) (om : OM O H) (np : H p = none) (r : Rps K (hid O H) vs ds) : Q (.ref p) (upd H p (.tup vs)) := by
  have nO : ¬ O p := fun z => by
    obtain ⟨o, e, _⟩ := om p z
    rw [np] at e; cases e
  exact h _ _ (same_upd np) (.tup (hid_iff.mpr ⟨nO, upd_same⟩) (r.mono (hid_same (same_upd np)))) fun _ ds' e => by cases e
theorem Post.mono {fr : Bool} {d : D} {Q : VK} (h : Post K O H fr d Q) (s : Same H H') : Post K O H' fr d Q := fun v H2 s2 r f =>
  h v H2 (s.trans s2) r fun e ds ed => by
    obtain ⟨p, vs, e1, e2, e3, e4⟩ := f e ds ed
    exact ⟨p, vs, e1, s.free e2, e3, e4⟩
end
end Pv

set_option Elab.async false
set_option linter.all false
set_option maxRecDepth 100000
set_option maxHeartbeats 1000000
/-! Operators by data. -/
namespace Pv
open PySem PySem.Spec PyProof.Rows L2

/-! ### == of scalars -/
theorem scal_flat {K : PySem.W.Frag} {F : Hp} {v : V} {d : D} (h : Rp K F v d) (s : scalD d = true) : flatV v = true := by
  cases h <;> first | rfl | cases s
theorem scal_eq {K : PySem.W.Frag} {F : Hp} {v u : V} {d e : D} (h : Rp K F v d) (g : Rp K F u e) (s : scalD d = true) (t : scalD e = true) : eqV v u = PyData.eqv d e := by
  cases h <;> first
    | (cases s; done)
    | (cases g <;> first
        | (cases t; done)
        | rfl
        | (simp only [eqV, PyData.eqv]))
theorem scals_flat {K : PySem.W.Frag} {F : Hp} : ∀ {vs : List V} {ds : List D}, Rps K F vs ds → ds.all scalD = true → vs.all flatV = true
  | _, _, .nil, _ => rfl
  | v :: vs, d :: ds, .cons h r, c => by
    have c' : scalD d = true ∧ ds.all scalD = true := by simpa using c
    rw [List.all_cons, scal_flat h c'.1, scals_flat r c'.2]
    rfl
theorem scals_in {K : PySem.W.Frag} {F : Hp} {x : V} {d : D} (hx : Rp K F x d) (sx : scalD d = true) : ∀ {vs : List V} {ds : List D}, Rps K F vs ds → ds.all scalD = true → inV x vs = ds.any fun z => PyData.eqv z d
  | _, _, .nil, _ => rfl
  | v :: vs, e :: ds, .cons h r, c => by
    have c' : scalD e = true ∧ ds.all scalD = true := by simpa using c
    unfold inV
    rw [List.any_cons, List.any_cons, scal_eq h hx c'.1 sx]
    have ih := scals_in hx sx r c'.2
    unfold inV at ih
    rw [ih]
theorem scal_b {K : PySem.W.Frag} {O : Addr → Prop} {H : Hp} {v : V} {d : D} (h : BRp K O H v d) (s : scalD d = true) : Rp K (hid O H) v d := by
  rcases h with h | ⟨a, vs, ds, e1, e2, _⟩
  · exact h
  · subst e2; cases s

/-- the operator's reading -/
def rO (K : PySem.W.Frag) (o : O2) : R2 := fun x y H Q => ∃ O dx dy d fr, OM O H ∧ BRp K O H x dx ∧ BRp K O H y dy ∧ op2 o dx dy = some d ∧ Post K O H fr d Q
def bop : O2 → Option Operator
  | .add => some .Add | .sub => some .Sub | .mul => some .Mult | .fdiv => some .FloorDiv | .mod => some .Mod | .pow => some .Pow
  | _ => none
def cop : O2 → Option CmpOp
  | .eq => some .Eq | .ne => some .NotEq | .lt => some .Lt | .le => some .LtE | .gt => some .Gt | .ge => some .GtE
  | .isIn => some .In | .notIn => some .NotIn | .is => some .Is | .isNot => some .IsNot
  | _ => none

section
variable {X : Cx}
theorem ni {i : Int} : ∀ ds, (PyData.int i) ≠ .list ds := fun _ e => by cases e
theorem nb {b : Bool} : ∀ ds, (PyData.bool b) ≠ .list ds := fun _ e => by cases e

/-- list + list, any lists -/
def rCatS (K : PySem.W.Frag) : R2 := fun x y H Q => ∃ l b xs zs, x = .ref l ∧ y = .ref b ∧ SqL K H l xs ∧ SqL K H b zs ∧ xs.length + zs.length ≤ sizeLine ∧ ∀ p, H p = none → Q (.ref p) (upd H p (.lst (xs ++ zs)))
theorem op_catS : OpR X (binaryOp .Add) (rCatS X.K) := by
  intro pins s σ H x y v u Q I rx ry h
  obtain ⟨l, b, xs, zs, rfl, rfl, hH, hB, hz, q⟩ := h
  cases rx
  cases ry
  obtain ⟨its, r, ⟨⟨cls, dd, data, sl⟩, n, ho, hc, hdn, hd⟩, hl⟩ := I.list hH
  obtain ⟨its2, r2, ⟨⟨cls2, dd2, data2, sl2⟩, n2, ho2, hc2, hdn2, hd2⟩, hl2⟩ := I.list hB
  simp only at hc hdn hd hc2 hdn2 hd2
  subst hc hdn hd hc2 hdn2 hd2
  have e1 := r.length
  have e2 := r2.length
  refine concat_meets ⟨_, ho, rfl⟩ ⟨_, ho2, rfl⟩ noFill_list_add seq_list_add PySem.F.slot_list_add PySem.F.entry_list_add (PySem.F.args_list_add_2 _ _) (list_addW l b its.toArray its2.toArray n n2 none none sl sl2 (by simp only [List.size_toArray]; omega)) ⟨ho, ho2, ?_⟩
  have ea : its.toArray ++ its2.toArray = (its ++ its2).toArray := by simp
  rw [ea]
  exact ⟨.ref _, _, I.lnew (t' := s.toks) (r.append r2) (by rw [List.length_append]; omega), rfl, q _ I.fresh⟩

theorem OpR.imp {f : Value → Value → Sem Value} {r r' : R2} (h : OpR X f r) (i : ∀ x y H Q, r' x y H Q → r x y H Q) : OpR X f r' :=
  fun pins s σ H x y v u Q I rx ry q => h pins s σ H x y v u Q I rx ry (i _ _ _ _ q)

theorem o_add : OpR X (binaryOp .Add) (rO X.K .add) := by
  refine OpR.imp (OpR.or op_add (OpR.or op_catS op_catA)) fun x y H Q h => ?_
  obtain ⟨O, dx, dy, d, fr, om, bx, by_, e, q⟩ := h
  cases dx <;> cases dy <;> first
    | (cases e; done)
    | skip
  · cases e
    exact .inl ⟨_, _, bx.int, by_.int, q.here (.int _) ni⟩
  · rename_i xs ys
    simp only [op2] at e
    split at e
    · rename_i hl
      cases e
      obtain ⟨a, vs, rfl, h1, r1⟩ := bx.lst
      obtain ⟨b, ws, rfl, h2, r2⟩ := by_.lst
      refine .inr (.inl ⟨a, b, vs, ws, rfl, rfl, SqL.of h1, SqL.of h2, ?_, fun p np => q.new om np (r1.append r2)⟩)
      rw [r1.length, r2.length]; exact hl
    · cases e
  · rename_i xs ys
    simp only [op2] at e
    split at e
    · rename_i hl
      cases e
      have bx' := bx
      have by' := by_
      obtain ⟨a, vs, rfl, h1, r1⟩ := bx.tup
      obtain ⟨b, ws, rfl, h2, r2⟩ := by_.tup
      have l1 := r1.length
      have l2 := r2.length
      refine .inr (.inr ⟨a, b, vs, ws, rfl, rfl, SqT.of h1, SqT.of h2, by rw [l1, l2]; exact hl, fun z => ?_, fun z z2 => ?_, fun _ _ p np => q.newT om np (r1.append r2)⟩)
      · subst z
        cases r1
        rcases by' with z | ⟨_, _, _, _, z, _⟩
        · exact q.here z fun _ e => by cases e
        · cases z
      · subst z2
        cases r2
        rw [List.append_nil] at q
        rcases bx' with z | ⟨_, _, _, _, z, _⟩
        · exact q.here z fun _ e => by cases e
        · cases z
    · cases e
theorem o_sub : OpR X (binaryOp .Sub) (rO X.K .sub) := by
  refine OpR.imp op_sub fun x y H Q h => ?_
  obtain ⟨O, dx, dy, d, fr, om, bx, by_, e, q⟩ := h
  cases dx <;> cases dy <;> first
    | (cases e; done)
    | (cases e; exact ⟨_, _, bx.int, by_.int, q.here (.int _) ni⟩)
theorem o_mul : OpR X (binaryOp .Mult) (rO X.K .mul) := by
  refine OpR.imp (OpR.or op_mulW op_rep) fun x y H Q h => ?_
  obtain ⟨O, dx, dy, d, fr, om, bx, by_, e, q⟩ := h
  cases dx <;> cases dy <;> first
    | (cases e; done)
    | skip
  · simp only [op2] at e
    split at e
    · rename_i hm
      cases e
      exact .inl ⟨_, _, bx.int, by_.int, (by unfold CMulW; simpa [mulOk] using hm), q.here (.int _) ni⟩
    · cases e
  · simp only [op2] at e
    split at e
    · rename_i hm
      cases e
      obtain ⟨a, vs, rfl, h1, r1⟩ := bx.lst
      refine .inr ⟨a, _, vs, rfl, by_.int, h1, hm.1, hm.2.1, by rw [r1.length]; exact hm.2.2, fun p np => q.new om np (r1.rep _)⟩
    · cases e
theorem o_fdiv : OpR X (binaryOp .FloorDiv) (rO X.K .fdiv) := by
  refine OpR.imp op_fdivW fun x y H Q h => ?_
  obtain ⟨O, dx, dy, d, fr, om, bx, by_, e, q⟩ := h
  cases dx <;> cases dy <;> first
    | (cases e; done)
    | skip
  simp only [op2] at e
  split at e
  · rename_i hm
    cases e
    exact ⟨_, _, bx.int, by_.int, hm, q.here (.int _) ni⟩
  · cases e
theorem o_mod : OpR X (binaryOp .Mod) (rO X.K .mod) := by
  refine OpR.imp op_mod fun x y H Q h => ?_
  obtain ⟨O, dx, dy, d, fr, om, bx, by_, e, q⟩ := h
  cases dx <;> cases dy <;> first
    | (cases e; done)
    | skip
  simp only [op2] at e
  split at e
  · rename_i hm
    cases e
    exact ⟨_, _, bx.int, by_.int, hm, q.here (.int _) ni⟩
  · cases e
theorem o_pow : OpR X (binaryOp .Pow) (rO X.K .pow) := by
  refine OpR.imp op_pow fun x y H Q h => ?_
  obtain ⟨O, dx, dy, d, fr, om, bx, by_, e, q⟩ := h
  cases dx <;> cases dy <;> first
    | (cases e; done)
    | skip
  simp only [op2] at e
  split at e
  · rename_i hm
    cases e
    exact ⟨_, _, bx.int, by_.int, hm, q.here (.int _) ni⟩
  · cases e
theorem o_lt : OpR X (compareOp .Lt) (rO X.K .lt) := by
  refine OpR.imp op_lt fun x y H Q h => ?_
  obtain ⟨O, dx, dy, d, fr, om, bx, by_, e, q⟩ := h
  cases dx <;> cases dy <;> first
    | (cases e; done)
    | (cases e; exact ⟨_, _, bx.int, by_.int, q.here (.bl _) nb⟩)
theorem o_le : OpR X (compareOp .LtE) (rO X.K .le) := by
  refine OpR.imp op_le fun x y H Q h => ?_
  obtain ⟨O, dx, dy, d, fr, om, bx, by_, e, q⟩ := h
  cases dx <;> cases dy <;> first
    | (cases e; done)
    | (cases e; exact ⟨_, _, bx.int, by_.int, q.here (.bl _) nb⟩)
theorem o_gt : OpR X (compareOp .Gt) (rO X.K .gt) := by
  refine OpR.imp op_gt fun x y H Q h => ?_
  obtain ⟨O, dx, dy, d, fr, om, bx, by_, e, q⟩ := h
  cases dx <;> cases dy <;> first
    | (cases e; done)
    | (cases e; exact ⟨_, _, bx.int, by_.int, q.here (.bl _) nb⟩)
theorem o_ge : OpR X (compareOp .GtE) (rO X.K .ge) := by
  refine OpR.imp op_ge fun x y H Q h => ?_
  obtain ⟨O, dx, dy, d, fr, om, bx, by_, e, q⟩ := h
  cases dx <;> cases dy <;> first
    | (cases e; done)
    | (cases e; exact ⟨_, _, bx.int, by_.int, q.here (.bl _) nb⟩)
theorem o_eq (hu : X.A.units + 65 < cLine) : OpR X (compareOp .Eq) (rO X.K .eq) := by
  refine OpR.imp (op_eqD (by omega)) fun x y H Q h => ?_
  obtain ⟨O, dx, dy, d, fr, om, bx, by_, e, q⟩ := h
  simp only [op2] at e
  split at e
  · rename_i hm
    cases e
    have hm' := Bool.and_eq_true_iff.mp hm
    exact ⟨dx, dy, bx.dp (SeqAt.canLay_of_shaped hm'.1), by_.dp (SeqAt.canLay_of_shaped hm'.2), hm'.1, hm'.2, q.here (.bl _) nb⟩
  · cases e
theorem o_ne (hu : X.A.units + 65 < cLine) : OpR X (compareOp .NotEq) (rO X.K .ne) := by
  refine OpR.imp (op_neD (by omega)) fun x y H Q h => ?_
  obtain ⟨O, dx, dy, d, fr, om, bx, by_, e, q⟩ := h
  simp only [op2] at e
  split at e
  · rename_i hm
    cases e
    have hm' := Bool.and_eq_true_iff.mp hm
    exact ⟨dx, dy, bx.dp (SeqAt.canLay_of_shaped hm'.1), by_.dp (SeqAt.canLay_of_shaped hm'.2), hm'.1, hm'.2, q.here (.bl _) nb⟩
  · cases e
theorem o_in (hu : X.A.units + 65 < cLine) : OpR X (compareOp .In) (rO X.K .isIn) := by
  refine OpR.imp (OpR.or (op_inD hu) op_in_seq) fun x y H Q h => ?_
  obtain ⟨O, dx, dy, d, fr, om, bx, by_, e, q⟩ := h
  cases dy <;> first
    | (cases e; done)
    | skip
  · simp only [op2] at e
    split at e
    · rename_i hm
      cases e
      have hm' := Bool.and_eq_true_iff.mp hm
      exact .inl ⟨dx, _, bx.dp (SeqAt.canLay_of_shaped hm'.1), by_.dp (SeqAt.canLay_of_shaped hm'.2), hm'.1, hm'.2, q.here (.bl _) nb⟩
    · cases e
  · simp only [op2] at e
    split at e
    · rename_i hm
      cases e
      have hm' := Bool.and_eq_true_iff.mp hm
      obtain ⟨b, ws, rfl, h2, r2⟩ := by_.tup
      have rx := scal_b bx hm'.1
      refine .inr ⟨b, ws, rfl, .inr (SqT.of h2), scal_flat rx hm'.1, scals_flat r2 hm'.2, ?_⟩
      rw [if_neg Bool.false_ne_true, scals_in rx hm'.1 r2 hm'.2]
      exact q.here (.bl _) nb
    · cases e
theorem o_notIn (hu : X.A.units + 65 < cLine) : OpR X (compareOp .NotIn) (rO X.K .notIn) := by
  refine OpR.imp (OpR.or (op_notInD hu) op_notIn_seq) fun x y H Q h => ?_
  obtain ⟨O, dx, dy, d, fr, om, bx, by_, e, q⟩ := h
  cases dy <;> first
    | (cases e; done)
    | skip
  · simp only [op2] at e
    split at e
    · rename_i hm
      cases e
      have hm' := Bool.and_eq_true_iff.mp hm
      exact .inl ⟨dx, _, bx.dp (SeqAt.canLay_of_shaped hm'.1), by_.dp (SeqAt.canLay_of_shaped hm'.2), hm'.1, hm'.2, q.here (.bl _) nb⟩
    · cases e
  · simp only [op2] at e
    split at e
    · rename_i hm
      cases e
      have hm' := Bool.and_eq_true_iff.mp hm
      obtain ⟨b, ws, rfl, h2, r2⟩ := by_.tup
      have rx := scal_b bx hm'.1
      refine .inr ⟨b, ws, rfl, .inr (SqT.of h2), scal_flat rx hm'.1, scals_flat r2 hm'.2, ?_⟩
      rw [if_pos rfl, scals_in rx hm'.1 r2 hm'.2]
      exact q.here (.bl _) nb
    · cases e
theorem non_iff {K : PySem.W.Frag} {O : Addr → Prop} {H : Hp} {v : V} {d : D} (h : BRp K O H v d) : decide (v = .non) = isNoneD d := by
  rcases h with h | ⟨a, vs, ds, rfl, rfl, _⟩
  · cases h <;> simp [isNoneD]
  · simp [isNoneD]
theorem o_is : OpR X (compareOp .Is) (rO X.K .is) := by
  refine OpR.imp (OpR.or op_isN op_isBl) fun x y H Q h => ?_
  obtain ⟨O, dx, dy, d, fr, om, bx, by_, e, q⟩ := h
  cases dy <;> first
    | (cases dx <;> cases e <;> done)
    | skip
  · have e' : some (PyData.bool (isNoneD dx)) = some d := by cases dx <;> exact e
    cases e'
    refine .inl ⟨by_.non, ?_⟩
    rw [non_iff bx]
    exact q.here (.bl _) nb
  · cases dx <;> first
      | (cases e; done)
      | (cases e; exact .inr ⟨_, _, bx.bool, by_.bool, q.here (.bl _) nb⟩)
theorem o_isNot : OpR X (compareOp .IsNot) (rO X.K .isNot) := by
  refine OpR.imp (OpR.or op_notN op_notBl) fun x y H Q h => ?_
  obtain ⟨O, dx, dy, d, fr, om, bx, by_, e, q⟩ := h
  cases dy <;> first
    | (cases dx <;> cases e <;> done)
    | skip
  · have e' : some (PyData.bool (!isNoneD dx)) = some d := by cases dx <;> exact e
    cases e'
    refine .inl ⟨by_.non, ?_⟩
    rw [non_iff bx]
    exact q.here (.bl _) nb
  · cases dx <;> first
      | (cases e; done)
      | (cases e; exact .inr ⟨_, _, bx.bool, by_.bool, q.here (.bl _) nb⟩)
theorem o_bin {o : O2} {p : Operator} (e : bop o = some p) : OpR X (binaryOp p) (rO X.K o) := by
  cases o <;> first
    | (cases e; done)
    | (cases e; first | exact o_add | exact o_sub | exact o_mul | exact o_fdiv | exact o_mod | exact o_pow)
theorem o_cmp (hu : X.A.units + 65 < cLine) {o : O2} {p : CmpOp} (e : cop o = some p) : OpR X (compareOp p) (rO X.K o) := by
  cases o <;> first
    | (cases e; done)
    | (cases e; first | exact o_lt | exact o_le | exact o_gt | exact o_ge | exact o_eq hu | exact o_ne hu | exact o_in hu | exact o_notIn hu | exact o_is | exact o_isNot)
end
end Pv

set_option Elab.async false
set_option linter.all false
set_option maxRecDepth 100000
set_option maxHeartbeats 1000000
/-! Built-ins by data. -/
namespace Pv
open PySem PySem.Spec PyProof.Rows L2

/-! ### plain lists of ints -/
theorem leastOf_spec : ∀ (l : List Int) (m : Int), (leastOf l m ∈ m :: l) ∧ ∀ y ∈ m :: l, leastOf l m ≤ y
  | [], m => ⟨List.mem_singleton.mpr rfl, fun y hy => by rw [List.mem_singleton.mp hy]; exact Int.le_refl _⟩
  | x :: r, m => by
    unfold leastOf
    obtain ⟨h1, h2⟩ := leastOf_spec r (if x < m then x else m)
    have hm : (if x < m then x else m) ≤ m ∧ (if x < m then x else m) ≤ x := by split <;> omega
    have hin : (if x < m then x else m) = m ∨ (if x < m then x else m) = x := by split <;> simp
    refine ⟨?_, fun y hy => ?_⟩
    · rcases List.mem_cons.mp h1 with e | e
      · rw [e]
        rcases hin with q | q <;> rw [q] <;> simp
      · simp [e]
    · have h0 := h2 _ List.mem_cons_self
      rcases List.mem_cons.mp hy with e | e
      · omega
      · rcases List.mem_cons.mp e with e | e
        · omega
        · exact h2 y (List.mem_cons_of_mem _ e)
theorem mostOf_spec : ∀ (l : List Int) (m : Int), (mostOf l m ∈ m :: l) ∧ ∀ y ∈ m :: l, y ≤ mostOf l m
  | [], m => ⟨List.mem_singleton.mpr rfl, fun y hy => by rw [List.mem_singleton.mp hy]; exact Int.le_refl _⟩
  | x :: r, m => by
    unfold mostOf
    obtain ⟨h1, h2⟩ := mostOf_spec r (if m < x then x else m)
    have hm : m ≤ (if m < x then x else m) ∧ x ≤ (if m < x then x else m) := by split <;> omega
    have hin : (if m < x then x else m) = m ∨ (if m < x then x else m) = x := by split <;> simp
    refine ⟨?_, fun y hy => ?_⟩
    · rcases List.mem_cons.mp h1 with e | e
      · rw [e]
        rcases hin with q | q <;> rw [q] <;> simp
      · simp [e]
    · have h0 := h2 _ List.mem_cons_self
      rcases List.mem_cons.mp hy with e | e
      · omega
      · rcases List.mem_cons.mp e with e | e
        · omega
        · exact h2 y (List.mem_cons_of_mem _ e)
theorem insI_perm (x : Int) : ∀ l : List Int, (insI x l).Perm (x :: l)
  | [] => List.Perm.refl _
  | y :: r => by
    unfold insI
    split
    · exact List.Perm.refl _
    · exact ((insI_perm x r).cons y).trans (List.Perm.swap x y r)
theorem sortI_perm : ∀ l : List Int, (sortI l).Perm l
  | [] => List.Perm.refl _
  | x :: r => by
    unfold sortI
    exact (insI_perm x _).trans ((sortI_perm r).cons x)
theorem insI_sorted (x : Int) : ∀ l : List Int, l.Pairwise (· ≤ ·) → (insI x l).Pairwise (· ≤ ·)
  | [], _ => List.pairwise_singleton _ _
  | y :: r, h => by
    unfold insI
    obtain ⟨h1, h2⟩ := List.pairwise_cons.mp h
    split
    · rename_i hxy
      refine List.pairwise_cons.mpr ⟨fun z hz => ?_, h⟩
      rcases List.mem_cons.mp hz with e | e
      · omega
      · have := h1 z e; omega
    · rename_i hxy
      refine List.pairwise_cons.mpr ⟨fun z hz => ?_, insI_sorted x r h2⟩
      rcases List.mem_cons.mp ((insI_perm x r).mem_iff.mp hz) with e | e
      · omega
      · exact h1 z e
theorem sortI_sorted : ∀ l : List Int, (sortI l).Pairwise (· ≤ ·)
  | [] => List.Pairwise.nil
  | x :: r => by
    unfold sortI
    exact insI_sorted x _ (sortI_sorted r)
theorem sorted_uniq : ∀ {l m : List Int}, l.Perm m → l.Pairwise (· ≤ ·) → m.Pairwise (· ≤ ·) → l = m
  | [], m, p, _, _ => (List.nil_perm.mp p).symm
  | x :: l, m, p, h1, h2 => by
    cases m with
    | nil => exact absurd p.length_eq (by simp)
    | cons y m =>
      obtain ⟨a1, a2⟩ := List.pairwise_cons.mp h1
      obtain ⟨b1, b2⟩ := List.pairwise_cons.mp h2
      have hx : x ∈ y :: m := p.mem_iff.mp List.mem_cons_self
      have hy : y ∈ x :: l := p.mem_iff.mpr List.mem_cons_self
      have e : x = y := by
        rcases List.mem_cons.mp hx with e | e
        · exact e
        · rcases List.mem_cons.mp hy with e' | e'
          · exact e'.symm
          · have := b1 x e; have := a1 y e'; omega
      subst e
      rw [sorted_uniq (List.Perm.cons_inv p) a2 b2]
theorem sortI_eq {l m : List Int} (p : l.Perm m) (h : l.Pairwise (· ≤ ·)) : l = sortI m := sorted_uniq (p.trans (sortI_perm m).symm) h (sortI_sorted m)

def frB : Bi → Bool
  | .list | .sorted | .sortedL => true
  | _ => false
def rB (K : PySem.W.Frag) (f : Bi) : List V → Hp → VK → Prop := fun vs H Q => ∃ O ds d fr, (fr = true → frB f = true) ∧ OM O H ∧ (if bib f then BRps K O H vs ds else Rps K (hid O H) vs ds) ∧ bi f ds = some d ∧ Post K O H fr d Q
def RI (X : Cx) (f : Value) (g : Bi) : Prop := CallR X f (rB X.K g)
theorem CallR.imp {X : Cx} {f : Value} {r r' : List V → Hp → VK → Prop} (h : CallR X f r) (i : ∀ xs H Q, r' xs H Q → r xs H Q) : CallR X f r' :=
  fun pins s σ H xs us Q I rx q => h pins s σ H xs us Q I rx (i _ _ _ q)

section
variable {X : Cx} {K : PySem.W.Frag} {O : Addr → Prop} {H : Hp}
theorem BRps.one {vs : List V} {d : D} (h : BRps K O H vs [d]) : ∃ v, vs = [v] ∧ BRp K O H v d := by
  cases h with
  | cons a b => cases b; exact ⟨_, rfl, a⟩
theorem BRps.two {vs : List V} {d e : D} (h : BRps K O H vs [d, e]) : ∃ v u, vs = [v, u] ∧ BRp K O H v d ∧ BRp K O H u e := by
  cases h with
  | cons a b => cases b with
    | cons c b => cases b; exact ⟨_, _, rfl, a, c⟩
theorem Rp.scrOf {F : Hp} {v : V} {xs : List D} (h : Rp K F v (.dict [(.none, .list xs)])) : ∃ (a : Addr) (ns : List Int), v = .ref a ∧ xs = ns.map .int ∧ SqL K F a (ns.map V.int) := by
  generalize e : (PyData.dict [(.none, .list xs)]) = d at h
  cases h <;> first
    | (cases e; done)
    | skip
  rename_i a ns hs
  have e' : xs = ns.map .int := PyData.list.inj (Prod.mk.inj (List.cons.inj (PyData.dict.inj e)).1).2
  exact ⟨a, ns, rfl, e', hs⟩
theorem BRp.scr {v : V} {xs : List D} (h : BRp K O H v (.dict [(.none, .list xs)])) : ∃ (a : Addr) (ns : List Int), v = .ref a ∧ xs = ns.map .int ∧ SqL K H a (ns.map V.int) := by
  rcases h with h | ⟨_, _, _, _, z, _⟩
  · obtain ⟨a, ns, e1, e2, hs⟩ := h.scrOf
    exact ⟨a, ns, e1, e2, SqL.same hs⟩
  · cases z
theorem Rps.ints2 {F : Hp} {vs : List V} {ds : List D} {ns : List Int} (h : Rps K F vs ds) (e : toInts ds = some ns) : vs = ns.map V.int := (h.ints e).1

theorem b_len : RI X (.builtin "len") .len := by
  refine CallR.imp call_len fun vs H Q h => ?_
  obtain ⟨O, ds, d, fr, hfr, om, bs, e, q⟩ := h
  replace bs : BRps X.K O H vs ds := bs
  match ds, e, bs with
  | [.list xs], e, bs =>
    cases e
    obtain ⟨v, rfl, bv⟩ := bs.one
    obtain ⟨a, ws, rfl, h1, r1⟩ := bv.lst
    exact ⟨_, _, rfl, .inl ⟨ws, SqL.of h1, rfl⟩, by rw [r1.length]; exact q.here (.int _) ni⟩
  | [.tuple xs], e, bs =>
    cases e
    obtain ⟨v, rfl, bv⟩ := bs.one
    obtain ⟨a, ws, rfl, h1, r1⟩ := bv.tup
    exact ⟨_, _, rfl, .inr ⟨ws, SqT.of h1, rfl⟩, by rw [r1.length]; exact q.here (.int _) ni⟩
  | [.dict [(.none, .list xs)]], e, bs =>
    cases e
    obtain ⟨v, rfl, bv⟩ := bs.one
    obtain ⟨a, ns, rfl, e2, hs⟩ := bv.scr
    subst e2
    refine ⟨_, _, rfl, .inl ⟨_, hs, rfl⟩, ?_⟩
    rw [List.length_map]
    rw [List.length_map] at q
    exact q.here (.int _) ni
theorem b_abs : RI X (.builtin "abs") .abs := by
  refine CallR.imp call_abs fun vs H Q h => ?_
  obtain ⟨O, ds, d, fr, hfr, om, bs, e, q⟩ := h
  replace bs : BRps X.K O H vs ds := bs
  match ds, e, bs with
  | [.int i], e, bs =>
    cases e
    obtain ⟨v, rfl, bv⟩ := bs.one
    rw [bv.int]
    exact ⟨i, rfl, q.here (.int _) ni⟩
theorem b_int : RI X (.type "int") .int := by
  refine CallR.imp call_int1 fun vs H Q h => ?_
  obtain ⟨O, ds, d, fr, hfr, om, bs, e, q⟩ := h
  replace bs : BRps X.K O H vs ds := bs
  match ds, e, bs with
  | [.int i], e, bs =>
    cases e
    obtain ⟨v, rfl, bv⟩ := bs.one
    rw [bv.int]
    exact .inl ⟨i, rfl, q.here (.int _) ni⟩
  | [.bool b], e, bs =>
    cases e
    obtain ⟨v, rfl, bv⟩ := bs.one
    rw [bv.bool]
    exact .inr ⟨b, rfl, q.here (.int _) ni⟩
theorem b_min2 (hc : X.calm = true) : RI X (.builtin "min") .min2 := by
  refine CallR.imp (call_min2 hc) fun vs H Q h => ?_
  obtain ⟨O, ds, d, fr, hfr, om, bs, e, q⟩ := h
  replace bs : BRps X.K O H vs ds := bs
  match ds, e, bs with
  | [.int i, .int j], e, bs =>
    cases e
    obtain ⟨v, u, rfl, bv, bu⟩ := bs.two
    rw [bv.int, bu.int]
    exact ⟨i, j, rfl, q.here (.int _) ni⟩
theorem b_max2 (hc : X.calm = true) : RI X (.builtin "max") .max2 := by
  refine CallR.imp (call_max2 hc) fun vs H Q h => ?_
  obtain ⟨O, ds, d, fr, hfr, om, bs, e, q⟩ := h
  replace bs : BRps X.K O H vs ds := bs
  match ds, e, bs with
  | [.int i, .int j], e, bs =>
    cases e
    obtain ⟨v, u, rfl, bv, bu⟩ := bs.two
    rw [bv.int, bu.int]
    exact ⟨i, j, rfl, q.here (.int _) ni⟩
theorem b_min1 (hc : X.calm = true) : RI X (.builtin "min") .min1 := by
  refine CallR.imp (cr_min hc) fun vs H Q h => ?_
  obtain ⟨O, ds, d, fr, hfr, om, bs, e, q⟩ := h
  replace bs : BRps X.K O H vs ds := bs
  match ds, e, bs with
  | [.list xs], e, bs =>
    obtain ⟨v, rfl, bv⟩ := bs.one
    obtain ⟨a, ws, rfl, h1, r1⟩ := bv.lst
    simp only [bi] at e
    split at e
    · rename_i x r hx
      cases e
      have := (r1.ints hx).1
      subst this
      refine ⟨a, _, rfl, SqL.of h1, Nat.succ_pos _, fun m h2 h3 => ?_⟩
      obtain ⟨l1, l2⟩ := leastOf_spec r x
      have em : m = leastOf r x := by
        have := h3 _ l1; have := l2 _ h2; omega
      rw [em]
      exact q.here (.int _) ni
    · cases e
theorem b_max1 (hc : X.calm = true) : RI X (.builtin "max") .max1 := by
  refine CallR.imp (cr_max hc) fun vs H Q h => ?_
  obtain ⟨O, ds, d, fr, hfr, om, bs, e, q⟩ := h
  replace bs : BRps X.K O H vs ds := bs
  match ds, e, bs with
  | [.list xs], e, bs =>
    obtain ⟨v, rfl, bv⟩ := bs.one
    obtain ⟨a, ws, rfl, h1, r1⟩ := bv.lst
    simp only [bi] at e
    split at e
    · rename_i x r hx
      cases e
      have := (r1.ints hx).1
      subst this
      refine ⟨a, _, rfl, SqL.of h1, Nat.succ_pos _, fun m h2 h3 => ?_⟩
      obtain ⟨l1, l2⟩ := mostOf_spec r x
      have em : m = mostOf r x := by
        have := h3 _ l1; have := l2 _ h2; omega
      rw [em]
      exact q.here (.int _) ni
    · cases e
theorem b_list : RI X (.type "list") .list := by
  refine CallR.imp call_list_of fun vs H Q h => ?_
  obtain ⟨O, ds, d, fr, hfr, om, bs, e, q⟩ := h
  replace bs : BRps X.K O H vs ds := bs
  match ds, e, bs with
  | [.list xs], e, bs =>
    cases e
    obtain ⟨v, rfl, bv⟩ := bs.one
    obtain ⟨a, ws, rfl, h1, r1⟩ := bv.lst
    exact ⟨a, ws, rfl, .inl (SqL.of h1), fun l nl => q.new om nl r1⟩
  | [.tuple xs], e, bs =>
    cases e
    obtain ⟨v, rfl, bv⟩ := bs.one
    obtain ⟨a, ws, rfl, h1, r1⟩ := bv.tup
    exact ⟨a, ws, rfl, .inr (SqT.of h1), fun l nl => q.new om nl r1⟩
theorem b_all (hc : X.calm = true) : RI X (.builtin "all") .all := by
  refine CallR.imp (cr_all hc) fun vs H Q h => ?_
  obtain ⟨O, ds, d, fr, hfr, om, bs, e, q⟩ := h
  replace bs : BRps X.K O H vs ds := bs
  match ds, e, bs with
  | [.list xs], e, bs =>
    obtain ⟨v, rfl, bv⟩ := bs.one
    obtain ⟨a, ws, rfl, h1, r1⟩ := bv.lst
    simp only [bi, Option.map_eq_some_iff] at e
    obtain ⟨cs, h2, e⟩ := e
    subst e
    have := r1.bools h2
    subst this
    exact ⟨a, cs, rfl, SqL.of h1, q.here (.bl _) nb⟩
theorem b_any (hc : X.calm = true) : RI X (.builtin "any") .any := by
  refine CallR.imp (cr_any hc) fun vs H Q h => ?_
  obtain ⟨O, ds, d, fr, hfr, om, bs, e, q⟩ := h
  replace bs : BRps X.K O H vs ds := bs
  match ds, e, bs with
  | [.list xs], e, bs =>
    obtain ⟨v, rfl, bv⟩ := bs.one
    obtain ⟨a, ws, rfl, h1, r1⟩ := bv.lst
    simp only [bi, Option.map_eq_some_iff] at e
    obtain ⟨cs, h2, e⟩ := e
    subst e
    have := r1.bools h2
    subst this
    exact ⟨a, cs, rfl, SqL.of h1, q.here (.bl _) nb⟩
theorem b_sum (hc : X.calm = true) : RI X (.builtin "sum") .sum := by
  refine CallR.imp (cr_sum hc) fun vs H Q h => ?_
  obtain ⟨O, ds, d, fr, hfr, om, bs, e, q⟩ := h
  replace bs : BRps X.K O H vs ds := bs
  match ds, e, bs with
  | [.list xs], e, bs =>
    obtain ⟨v, rfl, bv⟩ := bs.one
    obtain ⟨a, ws, rfl, h1, r1⟩ := bv.lst
    simp only [bi, Option.map_eq_some_iff] at e
    obtain ⟨cs, h2, e⟩ := e
    subst e
    have := (r1.ints h2).1
    subst this
    exact ⟨a, cs, rfl, SqL.of h1, q.here (.int _) ni⟩
theorem b_sorted : RI X (.builtin "sorted") .sorted := by
  refine CallR.imp cr_sortedI fun vs H Q h => ?_
  obtain ⟨O, ds, d, fr, hfr, om, bs, e, q⟩ := h
  replace bs : BRps X.K O H vs ds := bs
  match ds, e, bs with
  | [.list xs], e, bs =>
    obtain ⟨v, rfl, bv⟩ := bs.one
    obtain ⟨a, ws, rfl, h1, r1⟩ := bv.lst
    simp only [bi, Option.map_eq_some_iff] at e
    obtain ⟨cs, h2, e⟩ := e
    subst e
    have := (r1.ints h2).1
    subst this
    refine ⟨a, cs, rfl, SqL.of h1, fun ns' p hp hs np => ?_⟩
    rw [sortI_eq hp hs]
    exact q.new om np (Rps.ofInts _)
theorem b_gcd : RI X (.builtin "math.gcd") .gcd := by
  refine CallR.imp cr_gcd fun vs H Q h => ?_
  obtain ⟨O, ds, d, fr, hfr, om, bs, e, q⟩ := h
  replace bs : BRps X.K O H vs ds := bs
  match ds, e, bs with
  | [.int i, .int j], e, bs =>
    cases e
    obtain ⟨v, u, rfl, bv, bu⟩ := bs.two
    rw [bv.int, bu.int]
    exact ⟨i, j, rfl, q.here (.int _) ni⟩
end
end Pv

set_option Elab.async false
set_option linter.all false
set_option maxRecDepth 100000
set_option maxHeartbeats 1000000
/-! sum of a list of lists, with a start. -/
namespace PySem
namespace SumL
theorem args2 (a b : Value) : argsOk "sum" ⟨[a, b], []⟩ := by unfold argsOk; kernel_rfl
theorem sub_list_str : isSubtype (.type "list") (.type "str") = pure false := by rw [isSubtype_type]; kernel_rfl
theorem sub_list_bytes : isSubtype (.type "list") (.type "bytes") = pure false := by rw [isSubtype_type]; kernel_rfl
theorem sub_list_bytearray : isSubtype (.type "list") (.type "bytearray") = pure false := by rw [isSubtype_type]; kernel_rfl
abbrev LO (items : Array Value) (n : Nat) : Obj := { cls := .type "list", dict := none, data := .seq items n, slots := #[] }
section
variable {prog : Program} {w : World} {A : Around} {R : Result → Shared → Prop} {I : Addr} {fp wr : List Addr} {n : Nat} {P : Nat → Value → Prop} {St : Nat → Heap → Prop}
theorem loop (W : Walks prog w A.in1 I fp wr n P St) (vals : Nat → List Value) (h0 : Heap) (S : Addr) (hSf : S ∉ fp) (hS0 : h0.objs.size ≤ S)
    (hval : ∀ i v, i < n → P i v → ∃ a m, v = .ref a ∧ a ∉ wr ∧ a ≠ S ∧ h0.get? a = some (LO (vals i).toArray m)) (hfp : ∀ b ∈ fp, b < h0.objs.size) :
    ∀ (k i : Nat) (s : Shared) (t : Addr) (tot : List Value) (c m : Nat), n - i = k → i ≤ n → St i s.heap → s.heap.get? S = some (LO #[.ref t] c) → s.heap.get? t = some (LO tot.toArray m) → t ∉ wr → t ≠ S →
    (∀ b o, b ∉ wr → b ≠ S → h0.get? b = some o → s.heap.get? b = some o) → tot.length + (((List.range (n - i)).map fun j => (vals (i + j)).length).sum) ≤ sizeLine →
    (∀ h' tk t' m', (∀ b o, b ∉ wr → b ≠ S → h0.get? b = some o → h'.get? b = some o) → (i = n → t' = t) → (i < n → h0.objs.size ≤ t') → h'.get? t' = some (LO (tot ++ ((List.range (n - i)).map fun j => vals (i + j)).flatten).toArray m') → R (.ok (.ret (.ref t'))) { s with heap := h', toks := tk }) →
    codeAny (model prog w) A (.builtin "sum.loop" ⟨[.ref I, .ref S, rawInt 2, rawInt 0], []⟩) R s := by
  have hSw : S ∉ wr := fun h => hSf (W.sub _ h)
  intro k
  induction k with
  | zero =>
    intro i s t tot c m hk hi hst hS ht htw htS hkeep hlen hR
    have hin : i = n := by omega
    subst hin
    refine codeAny_builtin F.entry_sum_loop ?_
    rw [Around.under_plainId F.plain_sum_loop _]
    show wpAny _ A.in1 (seqItems? (.ref S) >>= _) _ _ s
    refine wpAny_bind (wpAny_seqItems hS rfl ?_)
    show wpAny _ A.in1 (tryCatch (pyNext (.ref I)) _ >>= _) _ _ s
    refine wpAny_bind (wpAny_tryCatch (W.done s _ _ hst fun h' tk hk' => ?_))
    refine wpAny_pure (hR h' tk t m (fun b o hb hb2 e => hk' b o hb (hkeep b o hb hb2 e)) (fun _ => rfl) (fun z => absurd z (Nat.lt_irrefl _)) ?_)
    rw [Nat.sub_self]
    have e : tot ++ ((List.range 0).map fun j => vals (i + j)).flatten = tot := by simp
    rw [e]
    exact hk' t _ htw ht
  | succ k ih =>
    intro i s t tot c m hk hi hst hS ht htw htS hkeep hlen hR
    have hlt : i < n := by omega
    refine codeAny_builtin F.entry_sum_loop ?_
    rw [Around.under_plainId F.plain_sum_loop _]
    show wpAny _ A.in1 (seqItems? (.ref S) >>= _) _ _ s
    refine wpAny_bind (wpAny_seqItems hS rfl ?_)
    show wpAny _ A.in1 (tryCatch (pyNext (.ref I)) _ >>= _) _ _ s
    refine wpAny_bind (wpAny_tryCatch (W.item i s _ _ hlt hst fun v h' tk hP hst' hk' => ?_))
    obtain ⟨a, ma, rfl, haw, haS, ha⟩ := hval i v hlt hP
    have ha' := hk' a _ haw (hkeep a _ haw haS ha)
    have ht' := hk' t _ htw ht
    have hS' := hk' S _ hSw hS
    have hni : n - i = (n - (i + 1)) + 1 := by omega
    have hsum : ((List.range (n - i)).map fun j => (vals (i + j)).length).sum = (vals i).length + ((List.range (n - (i + 1))).map fun j => (vals (i + 1 + j)).length).sum := by
      rw [hni, List.range_succ_eq_map, List.map_cons, List.sum_cons, List.map_map, Nat.add_zero]
      congr 2
      refine List.map_congr_left fun j _ => ?_
      show (vals (i + (j + 1))).length = _
      rw [show i + (j + 1) = i + 1 + j by omega]
    have hfl : ((List.range (n - i)).map fun j => vals (i + j)).flatten = vals i ++ ((List.range (n - (i + 1))).map fun j => vals (i + 1 + j)).flatten := by
      rw [hni, List.range_succ_eq_map, List.map_cons, List.flatten_cons, List.map_map, Nat.add_zero]
      congr 2
      refine List.map_congr_left fun j _ => ?_
      show vals (i + (j + 1)) = _
      rw [show i + (j + 1) = i + 1 + j by omega]
    show wpAny _ A.in1 ((holding [Value.ref a] (binaryOp .Add (.ref t) (.ref a))).attempt >>= _) _ _ _
    have hSlt : S < h'.objs.size := Heap.lt_size hS'
    have h0lt : h0.objs.size < h'.objs.size := Nat.lt_of_le_of_lt hS0 hSlt
    have key : ∀ {Q : Value → Shared → Prop} {E : Value → Shared → Prop}, Q (.ref h'.objs.size) { s with heap := h'.push (LO (tot ++ vals i).toArray 0), toks := tk } → wpAny (model prog w) A.in1 (binaryOp .Add (.ref t) (.ref a)) Q E { s with heap := h', toks := tk } := fun hq => by
      refine PySem.P.add_list (s := { s with heap := h', toks := tk }) ht' ha' ?_ (by simp only [List.size_toArray]; omega)
      have e : tot.toArray ++ (vals i).toArray = (tot ++ vals i).toArray := by simp
      rw [e]
      exact hq
    refine wpAny_bind (wpAny_attempt (wpAny_holding (key ?_)))
    have hS2 : (h'.push (LO (tot ++ vals i).toArray 0)).get? S = some (LO #[.ref t] c) := Heap.get?_push_of_some _ hS'
    show wpAny _ A.in1 (updateSeq S (fun _ => #[.ref h'.objs.size]) >>= _) _ _ _
    refine wpAny_bind (wpAny_updateSeq hS2 rfl ?_)
    have hS3 := Heap.get?_update_self (Obj.mapSeq fun _ => #[Value.ref h'.objs.size]) hS2 rfl
    refine wpAny_bind (wpAny_letGo ?_)
    have keep2 : ∀ b o, b ≠ S → h'.get? b = some o → (((h'.push (LO (tot ++ vals i).toArray 0)).update S (Obj.mapSeq fun _ => #[Value.ref h'.objs.size])).update S (Obj.mapSeq fun _ => #[Value.ref h'.objs.size])).get? b = some o := fun b o hb e =>
      (Heap.get?_update_other _ _ (Ne.symm hb)).trans ((Heap.get?_update_other _ _ (Ne.symm hb)).trans (Heap.get?_push_of_some _ e))
    have hnew : (((h'.push (LO (tot ++ vals i).toArray 0)).update S (Obj.mapSeq fun _ => #[Value.ref h'.objs.size])).update S (Obj.mapSeq fun _ => #[Value.ref h'.objs.size])).get? h'.objs.size = some (LO (tot ++ vals i).toArray 0) :=
      (Heap.get?_update_other _ _ (Nat.ne_of_lt hSlt)).trans ((Heap.get?_update_other _ _ (Nat.ne_of_lt hSlt)).trans (Heap.get?_push_size _ rfl))
    have hfpw : ∀ b ∈ wr, b < h0.objs.size := fun b hb => hfp b (W.sub b hb)
    refine wpAny_bind (wpAny_updateSeq hS3 rfl (wpAny_pure ⟨plainId_quiet F.plain_sum_loop _, ih (i + 1) _ h'.objs.size (tot ++ vals i) _ 0 (by omega) hlt (W.frame _ _ _ hst' fun b hb o e => keep2 b o (fun z => hSf (z ▸ hb)) e) (Heap.get?_update_self _ hS3 rfl) hnew
      (fun z => Nat.lt_irrefl _ (Nat.lt_trans (hfpw _ z) h0lt)) (Nat.ne_of_gt hSlt) (fun b o hb hb2 e => keep2 b o hb2 (hk' b o hb (hkeep b o hb hb2 e))) (by rw [List.length_append]; omega) fun h'' tk'' t'' m'' k1 k2 k3 k4 => ?_⟩))
    refine hR h'' tk'' t'' m'' k1 (fun z => absurd z (by omega)) (fun _ => ?_) ?_
    · by_cases z : i + 1 = n
      · rw [k2 z]; exact Nat.le_of_lt h0lt
      · exact k3 (by omega)
    · rw [hfl, ← List.append_assoc]
      exact k4
end
end SumL
end PySem
namespace PySem
namespace SumL
section
variable {prog : Program} {w : World} {A : Around} {E : Value → Shared → Prop} {s : Shared}
theorem call_sum {l st : Addr} {its : List Value} {vals : Nat → List Value} {zs : List Value} {m : Nat} {Q : Value → Shared → Prop} (hh : A.handled = none) (hl : s.heap.IsList l its.toArray)
    (hz : s.heap.get? st = some (LO zs.toArray m)) (hv : ∀ i v, its[i]? = some v → ∃ a m, v = .ref a ∧ s.heap.get? a = some (LO (vals i).toArray m)) (hlen : zs.length + (((List.range its.length).map fun j => (vals j).length).sum) ≤ sizeLine)
    (hQ : ∀ h' tk t' m', (∀ b o, s.heap.get? b = some o → h'.get? b = some o) → (its = [] → t' = st) → (its ≠ [] → s.heap.objs.size ≤ t') → h'.get? t' = some (LO (zs ++ ((List.range its.length).map vals).flatten).toArray m') → Q (.ref t') { s with heap := h', toks := tk }) :
    wpAny (model prog w) A (call (.builtin "sum") [.ref l, .ref st]) Q E s := by
  refine call_function_tree F.kind_sum F.plain_sum F.entry_sum (args2 _ _) ?_
  unfold Builtin.«sum»
  simp only [List.length_cons, List.length_nil]
  rw [if_neg (by decide)]
  refine wpAny_bind (wpAny_of_eq (show Builtin.Builtins.bindParams "sum" ["start"] 0 ⟨[Value.ref st], []⟩ = pure [some (Value.ref st)] from rfl) ?_)
  refine wpAny_bind (L2.iter_any hl fun s₂ hs2 hit hne => ?_)
  have k2 : ∀ b o, s.heap.get? b = some o → s₂.heap.get? b = some o := fun b o e => by rw [hs2]; exact Heap.get?_push_of_some _ e
  have z2 : s₂.heap.objs.size = s.heap.objs.size + 1 := by rw [hs2]; exact Heap.size_push ..
  have tl : ∀ s' : Shared, s'.heap = s₂.heap → s'.TypeIs (.ref st) "list" := fun s' e => ⟨_, by rw [e]; exact k2 _ _ hz, rfl⟩
  refine wpAny_bind (wpAny_pure ?_)
  simp only [List.forIn_cons, List.forIn_nil]
  refine wpAny_bind (wpAny_bind (wpAny_bind (wpAny_isInstance (T := "list") (b := false) (tl _ rfl) sub_list_str ?_)))
  simp only [Bool.false_eq_true, if_false]
  refine wpAny_pure (wpAny_bind (wpAny_bind (wpAny_isInstance (T := "list") (b := false) (tl _ rfl) sub_list_bytes ?_)))
  simp only [Bool.false_eq_true, if_false]
  refine wpAny_pure (wpAny_bind (wpAny_bind (wpAny_isInstance (T := "list") (b := false) (tl _ rfl) sub_list_bytearray ?_)))
  simp only [Bool.false_eq_true, if_false]
  refine wpAny_pure (wpAny_pure ?_)
  refine wpAny_bind (wpAny_newObj_type ?_)
  have W := Walks.list (prog := prog) (w := w) (A := A.in1) hh s.heap.objs.size l hne its.toArray
  have hlt : l < s.heap.objs.size := by obtain ⟨_, e, _⟩ := hl; exact Heap.lt_size e
  have hQs : ∀ h' tk v, Q v { s with heap := h', toks := tk } = Q v { s₂ with heap := h', toks := tk } := fun h' tk v => by rw [hs2]
  have hsz : its.toArray.size = its.length := List.size_toArray
  refine wpAny_pure ⟨plainId_quiet F.plain_sum_loop _, loop W vals s₂.heap s₂.heap.objs.size (fun hm => ?_) (Nat.le_refl _) (fun i v hi hP => ?_) (fun b hb => ?_) its.length 0 _ st zs 0 m (by rw [hsz]; omega) (Nat.zero_le _)
    (W.frame _ _ _ hit fun b _ o e => Heap.get?_push_of_some _ e) (Heap.get?_push_size _ rfl) (Heap.get?_push_of_some _ (k2 _ _ hz)) (fun hm => ?_) (Nat.ne_of_lt (Heap.lt_size (k2 _ _ hz))) (fun b o _ _ e => Heap.get?_push_of_some _ e) ?_ fun h' tk t' m' q1 q2 q3 q4 => ?_⟩
  · have hm' : s₂.heap.objs.size = s.heap.objs.size ∨ s₂.heap.objs.size = l := by simpa using hm
    rw [z2] at hm'
    rcases hm' with e | e
    · exact absurd e (Nat.succ_ne_self _)
    · exact absurd hlt (by rw [← e]; exact Nat.not_lt_of_le (Nat.le_succ _))
  · have hv' : its[i]? = some v := by simpa using hP
    obtain ⟨a, ma, e1, e2⟩ := hv i v hv'
    refine ⟨a, ma, e1, fun hm => ?_, Nat.ne_of_lt (Heap.lt_size (k2 _ _ e2)), k2 _ _ e2⟩
    have : a = s.heap.objs.size := by simpa using hm
    exact absurd (Heap.lt_size e2) (by rw [this]; exact Nat.lt_irrefl _)
  · have hb' : b = s.heap.objs.size ∨ b = l := by simpa using hb
    rcases hb' with e | e
    · rw [e, z2]; exact Nat.lt_succ_self _
    · rw [e, z2]; exact Nat.lt_succ_of_lt hlt
  · have : st = s.heap.objs.size := by simpa using hm
    exact absurd (Heap.lt_size hz) (by rw [this]; exact Nat.lt_irrefl _)
  · rw [hsz, Nat.sub_zero]
    simpa using hlen
  · rw [hsz, Nat.sub_zero] at q4
    show Q (.ref t') { s₂ with heap := h', toks := tk }
    rw [← hQs]
    refine hQ h' tk t' m' (fun b o e => ?_) (fun z => q2 (by rw [z]; rfl)) (fun z => ?_) (by simpa using q4)
    · refine q1 b o (fun hm => ?_) (Nat.ne_of_lt (Heap.lt_size (k2 _ _ e))) (k2 _ _ e)
      have : b = s.heap.objs.size := by simpa using hm
      exact absurd (Heap.lt_size e) (by rw [this]; exact Nat.lt_irrefl _)
    · have hp : 0 < its.toArray.size := by
        rw [hsz]
        cases its with
        | nil => exact absurd rfl z
        | cons a b => exact Nat.succ_pos _
      have := q3 hp
      omega
end
end SumL
end PySem
namespace Pv
open PySem PySem.Spec PyProof.Rows L2
theorem lists_of {K : PySem.W.Frag} {F : Hp} : ∀ {vs : List V} {ds : List D} {ls : List (List D)}, Rps K F vs ds → toLists ds = some ls → ds = ls.map .list
  | _, _, ls, .nil, e => by cases (show some [] = some ls from e); rfl
  | _, .list i :: ds, ls, .cons h r, e => by
    have e' : (toLists ds).map (i :: ·) = some ls := e
    obtain ⟨ms, q, e2⟩ := Option.map_eq_some_iff.mp e'
    rw [← e2, lists_of r q]; rfl
  | _, .none :: _, _, .cons _ _, e | _, .bool _ :: _, _, .cons _ _, e | _, .int _ :: _, _, .cons _ _, e | _, .str _ :: _, _, .cons _ _, e | _, .tuple _ :: _, _, .cons _ _, e | _, .dict _ :: _, _, .cons _ _, e => by cases e
/-- the lists within a list -/
theorem Rps.rows {K : PySem.W.Frag} {F : Hp} : ∀ {vs : List V} {ls : List (List D)}, Rps K F vs (ls.map .list) → ∃ ws : List (List V), ws.length = ls.length ∧ (∀ i v, vs[i]? = some v → ∃ a, v = .ref a ∧ F a = some (.lst (ws.getD i []))) ∧ Rps K F ws.flatten ls.flatten ∧ ∀ i, (ws.getD i []).length = (ls.getD i []).length
  | _, [], .nil => ⟨[], rfl, fun i v e => by simp at e, .nil, fun i => rfl⟩
  | _, l :: ls, .cons h r => by
    obtain ⟨ws, h1, h2, h3, h4⟩ := Rps.rows r
    cases h with
    | lst ha hr =>
      rename_i a xs
      refine ⟨xs :: ws, by rw [List.length_cons, List.length_cons, h1], fun i v e => ?_, by rw [List.flatten_cons, List.flatten_cons]; exact hr.append h3, fun i => ?_⟩
      · cases i with
        | zero =>
          have : V.ref a = v := by simpa using e
          exact ⟨a, this.symm, ha⟩
        | succ i => exact h2 i v (by simpa using e)
      · cases i with
        | zero => exact hr.length
        | succ i => exact h4 i
theorem range_getD {α : Type} (d : α) : ∀ l : List α, (List.range l.length).map (fun i => l.getD i d) = l
  | [] => rfl
  | x :: r => by
    rw [List.length_cons, List.range_succ_eq_map, List.map_cons, List.map_map]
    congr 1
    exact range_getD d r
section
variable {X : Cx}
theorem b_sumL (hc : X.calm = true) : RI X (.builtin "sum") .sumL := by
  intro pins s σ H vs us Q I rv h
  obtain ⟨O, ds, d, fr, hfr, om, bs, e, q⟩ := h
  replace bs : Rps X.K (hid O H) vs ds := bs
  match ds, e, bs with
  | [.list xs, .list ys], e, bs =>
    simp only [bi, Option.bind_eq_some_iff] at e
    obtain ⟨ls, h2, e⟩ := e
    split at e
    · rename_i hlen
      cases e
      cases bs with
      | cons b1 b2 =>
        cases b2 with
        | cons b2 b3 =>
          cases b3
          have b2' := b2
          cases b1 with
          | lst ha ra =>
            cases b2 with
            | lst hb rb =>
              rename_i a vs1 b vs2
              have e1 := lists_of ra h2
              subst e1
              obtain ⟨ws, l1, l2, l3, l4⟩ := ra.rows
              obtain ⟨us1, us2, rfl, ru1, ru2⟩ := vals2 rv
              cases (show us1 = Value.ref a from ru1)
              cases (show us2 = Value.ref b from ru2)
              have ha' := (hid_iff.mp ha).2
              have hb' := (hid_iff.mp hb).2
              obtain ⟨z, its, n, r, hl, eo⟩ := I.lstM ha'
              obtain ⟨z2, its2, n2, r2, hl2, eo2⟩ := I.lstM hb'
              -- the rows' values
              have rows : ∀ i v, its[i]? = some v → ∃ (c : Addr) (m : Nat) (cs : List Value), v = .ref c ∧ s.heap.get? c = some (SumL.LO cs.toArray m) ∧ Vals (ws.getD i []) cs := fun i v hv => by
                have hi : i < vs1.length := by rw [hl]; exact (List.getElem?_eq_some_iff.mp hv).1
                obtain ⟨u, hu, ru⟩ := r.get (List.getElem?_eq_getElem hi)
                have : v = u := Option.some.inj (hv.symm.trans hu)
                subst this
                obtain ⟨c, ec, hc'⟩ := l2 i _ (List.getElem?_eq_getElem hi)
                rw [ec] at ru
                cases (show v = Value.ref c from ru)
                obtain ⟨_, cs, m, rc, _, eoc⟩ := I.lstM (hid_iff.mp hc').2
                exact ⟨c, m, cs, rfl, eoc, rc⟩
              have rows' : ∀ i, ∃ cs : List Value, ∀ v, its[i]? = some v → (∃ (c : Addr) (m : Nat), v = .ref c ∧ s.heap.get? c = some (SumL.LO cs.toArray m)) ∧ Vals (ws.getD i []) cs := fun i => by
                cases hi : its[i]? with
                | none => exact ⟨[], fun v e => nomatch e⟩
                | some v =>
                  obtain ⟨c, m, cs, h1, h2, h3⟩ := rows i v hi
                  exact ⟨cs, fun v' e => by cases e; exact ⟨⟨c, m, h1, h2⟩, h3⟩⟩
              obtain ⟨vals, hvals⟩ := Classical.axiomOfChoice rows'
              have nlen : its.length = ws.length := by rw [← hl, ra.length, List.length_map, l1]
              have vlen : ∀ i, i < its.length → (vals i).length = (ws.getD i []).length := fun i hi => by
                obtain ⟨_, hv⟩ := hvals i _ (List.getElem?_eq_getElem hi)
                exact hv.length.symm
              have hsum : ((List.range its.length).map fun j => (vals j).length).sum = (ls.map List.length).sum := by
                have e6 : (List.range its.length).map (fun j => (vals j).length) = ls.map List.length := by
                  have e7 := range_getD ([] : List D) ls
                  conv => rhs; rw [← e7, List.map_map]
                  rw [nlen, l1]
                  refine List.map_congr_left fun j hj => ?_
                  have hj' : j < its.length := by rw [nlen, l1]; exact List.mem_range.mp hj
                  rw [vlen j hj']
                  exact l4 j
                rw [e6]
              have hfl : Vals ws.flatten ((List.range its.length).map vals).flatten := by
                have gen : ∀ (n : Nat) (ws' : List (List V)), ws'.length = n → (∀ i, i < n → Vals (ws'.getD i []) (vals (its.length - n + i))) → n ≤ its.length → Vals ws'.flatten ((List.range n).map fun i => vals (its.length - n + i)).flatten := by
                  intro n
                  induction n with
                  | zero =>
                    intro ws' hw _ _
                    cases ws' with
                    | nil => exact .nil
                    | cons a b => cases hw
                  | succ n ih =>
                    intro ws' hw hv hn
                    cases ws' with
                    | nil => cases hw
                    | cons x ws' =>
                      rw [List.range_succ_eq_map, List.map_cons, List.flatten_cons, List.flatten_cons, List.map_map]
                      refine (hv 0 (Nat.succ_pos _)).append ?_
                      have q := ih ws' (by simpa using hw) (fun i hi => by
                        have := hv (i + 1) (by omega)
                        rw [show its.length - n + i = its.length - (n + 1) + (i + 1) by omega]
                        simpa using this) (by omega)
                      have e8 : (List.range n).map (fun i => vals (its.length - n + i)) = (List.range n).map ((fun i => vals (its.length - (n + 1) + i)) ∘ Nat.succ) := List.map_congr_left fun j _ => by
                        show vals _ = vals (its.length - (n + 1) + (j + 1))
                        rw [show its.length - n + j = its.length - (n + 1) + (j + 1) by omega]
                      rw [← e8]
                      exact q
                have := gen its.length ws nlen.symm (fun i hi => by
                  rw [Nat.sub_self, Nat.zero_add]
                  exact (hvals i _ (List.getElem?_eq_getElem hi)).2) (Nat.le_refl _)
                simpa using this
              refine SumL.call_sum (its := its) (vals := vals) (zs := its2) (I.ok.hd hc) ⟨_, eo, rfl, _, rfl⟩ eo2 (fun i v hv => (hvals i v hv).1) (by rw [hsum, ← hl2, rb.length]; exact hlen) fun h' tk t' m' k1 k2 k3 k4 => ?_
              by_cases hi : its = []
              · have et := k2 hi
                subst et
                have e9 : ls = [] := by
                  have : ls.length = 0 := by rw [← l1, ← nlen, hi]; rfl
                  exact List.eq_nil_of_length_eq_zero this
                subst e9
                refine ⟨.ref t', H, I.kept k1, rfl, ?_⟩
                refine q (.ref t') H (Same.refl H) ?_ (fun efr ds ed => ?_)
                · simpa using b2'
                · exact absurd (hfr efr) Bool.false_ne_true
              · refine ⟨.ref t', upd H t' (.lst (vs2 ++ ws.flatten)), I.laid (t' := tk) k1 (k3 hi) ⟨?_, _, m', r2.append hfl, k4⟩, rfl, q.new om (I.hok.fresh (k3 hi)) (rb.append l3)⟩
                rw [List.length_append, rb.length, l3.length, List.length_flatten]
                exact hlen
    · cases e
end
end Pv

set_option Elab.async false
set_option linter.all false
set_option maxRecDepth 100000
set_option maxHeartbeats 1000000
/-! sorted of rows of ints: lists, tuples, the keys of a dict. -/
namespace Pv
open PySem PySem.Spec PyProof.Rows L2

theorem lexLe_iff : ∀ x y : List Int, lexLe x y = decide (x ≤ y)
  | [], y => by simp [lexLe]
  | x :: xs, [] => by simp [lexLe]
  | x :: xs, y :: ys => by
    unfold lexLe
    by_cases h : x = y
    · rw [if_pos h, lexLe_iff xs ys]
      simp [List.cons_le_cons_iff, h]
    · rw [if_neg h]
      simp [List.cons_le_cons_iff, h]
theorem le_total' (x y : List Int) : (decide (x ≤ y) || decide (y ≤ x)) = true := by
  rcases List.le_total x y with h | h <;> simp [h]
theorem le_trans' (x y z : List Int) (h1 : decide (x ≤ y) = true) (h2 : decide (y ≤ z) = true) : decide (x ≤ z) = true := by
  exact decide_eq_true (List.le_trans (of_decide_eq_true h1) (of_decide_eq_true h2))
theorem insL_perm (x : List Int) : ∀ l : List (List Int), (insL x l).Perm (x :: l)
  | [] => List.Perm.refl _
  | y :: r => by
    unfold insL
    split
    · exact List.Perm.refl _
    · exact ((insL_perm x r).cons y).trans (List.Perm.swap x y r)
theorem sortL_perm : ∀ l : List (List Int), (sortL l).Perm l
  | [] => List.Perm.refl _
  | x :: r => by
    unfold sortL
    exact (insL_perm x _).trans ((sortL_perm r).cons x)
theorem insL_sorted (x : List Int) : ∀ l : List (List Int), l.Pairwise (fun a b => decide (a ≤ b) = true) → (insL x l).Pairwise (fun a b => decide (a ≤ b) = true)
  | [], _ => List.pairwise_singleton _ _
  | y :: r, h => by
    unfold insL
    rw [lexLe_iff]
    obtain ⟨h1, h2⟩ := List.pairwise_cons.mp h
    split
    · rename_i hxy
      refine List.pairwise_cons.mpr ⟨fun z hz => ?_, h⟩
      rcases List.mem_cons.mp hz with rfl | hz
      · exact hxy
      · exact le_trans' _ _ _ hxy (h1 z hz)
    · rename_i hxy
      refine List.pairwise_cons.mpr ⟨fun z hz => ?_, insL_sorted x r h2⟩
      rcases List.mem_cons.mp ((insL_perm x r).mem_iff.mp hz) with rfl | hz
      · have := le_total' z y
        rw [Bool.or_eq_true] at this
        exact this.resolve_left hxy
      · exact h1 z hz
theorem sortL_sorted : ∀ l : List (List Int), (sortL l).Pairwise (fun a b => decide (a ≤ b) = true)
  | [] => .nil
  | x :: r => by unfold sortL; exact insL_sorted x _ (sortL_sorted r)
theorem sortL_merge (l : List (List Int)) : l.mergeSort (fun p q => decide (p ≤ q)) = sortL l :=
  (PySem.W.Srt.the_of_perm _ le_trans' le_total' (fun x y h1 h2 => List.le_antisymm (of_decide_eq_true h1) (of_decide_eq_true h2)) (sortL_perm l) (sortL_sorted l)).symm
theorem le_lists : PySem.W.dataLe false (fun b : List Int => PyData.list (b.map .int)) = fun p q => decide (p ≤ q) := PySem.W.dataLe_rows id
theorem le_tuples : PySem.W.dataLe false (fun b : List Int => PyData.tuple (b.map .int)) = fun p q => decide (p ≤ q) := by
  rw [← le_lists]
  funext p q
  show (!PySem.W.dataLt (.tuple (q.map .int)) (.tuple (p.map .int))) = (!PySem.W.dataLt (.list (q.map .int)) (.list (p.map .int)))
  rw [PySem.W.dataLt_tuple, PySem.W.dataLt_list]

/-- lists or tuples -/
def encR (t : Bool) (l : List Int) : D := if t then .tuple (l.map .int) else .list (l.map .int)
theorem le_enc (t : Bool) : PySem.W.dataLe false (encR t) = fun p q => decide (p ≤ q) := by
  cases t with
  | true => exact le_tuples
  | false => exact le_lists
theorem alike_enc (t : Bool) (a b : List Int) : PySem.W.alike (encR t a) (encR t b) = true := by
  cases t with
  | true => show PySem.W.alikeAll _ _ = true; exact PySem.W.alike_ints a b
  | false => show PySem.W.alikeAll _ _ = true; exact PySem.W.alike_ints a b
theorem depth_enc (t : Bool) (a : List Int) : (encR t a).depth ≤ 1 := by
  cases t with
  | true => show PyData.depth (.tuple (a.map .int)) ≤ 1; simp [PyData.depth, PySem.W.depth_ints]
  | false => show PyData.depth (.list (a.map .int)) ≤ 1; simp [PyData.depth, PySem.W.depth_ints]
theorem toLL_enc : ∀ {xs : List D} {ls : List (List Int)}, toLL xs = some ls → xs = ls.map (encR false)
  | [], ls, h => by cases h; rfl
  | x :: xs, ls, h => by
    cases x <;> first
      | (cases h; done)
      | skip
    rename_i y
    simp only [toLL, Option.bind_eq_some_iff, Option.map_eq_some_iff] at h
    obtain ⟨l, e1, ls', e2, rfl⟩ := h
    rw [List.map_cons, ← toLL_enc e2]
    congr 1
    show PyData.list y = .list (l.map .int)
    congr 1
    clear e2
    induction y generalizing l with
    | nil => cases e1; rfl
    | cons a y ih =>
      cases a <;> first
        | (cases e1; done)
        | skip
      rename_i i
      have h' : (toInts y).map (i :: ·) = some l := e1
      obtain ⟨m, e3, rfl⟩ := Option.map_eq_some_iff.mp h'
      rw [ih m e3]; rfl
theorem toTT_enc : ∀ {xs : List D} {ls : List (List Int)}, toTT xs = some ls → xs = ls.map (encR true) ∧ ∀ l ∈ ls, l ≠ []
  | [], ls, h => by cases h; exact ⟨rfl, fun _ z => nomatch z⟩
  | x :: xs, ls, h => by
    cases x <;> first
      | (cases h; done)
      | skip
    rename_i y
    simp only [toTT, Option.bind_eq_some_iff] at h
    obtain ⟨l, e1, h⟩ := h
    split at h
    · cases h
    · rename_i hne
      obtain ⟨ls', e2, rfl⟩ := Option.map_eq_some_iff.mp h
      obtain ⟨e3, e4⟩ := toTT_enc e2
      refine ⟨?_, fun m hm => ?_⟩
      · rw [List.map_cons, ← e3]
        congr 1
        show PyData.tuple y = .tuple (l.map .int)
        congr 1
        clear e2 hne h
        induction y generalizing l with
        | nil => cases e1; rfl
        | cons a y ih =>
          cases a <;> first
            | (cases e1; done)
            | skip
          rename_i i
          have h' : (toInts y).map (i :: ·) = some l := e1
          obtain ⟨m, e3, rfl⟩ := Option.map_eq_some_iff.mp h'
          rw [ih m e3]; rfl
      · rcases List.mem_cons.mp hm with rfl | hm
        · intro z; subst z; exact hne rfl
        · exact e4 m hm
theorem sortable_enc (t : Bool) {ls : List (List Int)} (h : t = true → ∀ l ∈ ls, l ≠ []) : PySem.W.Sortable (ls.map (encR t)) := by
  cases t with
  | true =>
    refine .inl fun d hd => ?_
    obtain ⟨l, hl, rfl⟩ := List.mem_map.mp hd
    cases l with
    | nil => exact absurd rfl (h rfl [] hl)
    | cons x r => exact ⟨_, _, rfl⟩
  | false =>
    refine .inr fun d hd => ?_
    obtain ⟨l, hl, rfl⟩ := List.mem_map.mp hd
    exact ⟨fun z => (nomatch (show PyData.list _ = PyData.none from z)), fun xs z => (nomatch (show PyData.list _ = PyData.tuple xs from z))⟩
theorem each_of {K : PySem.W.Frag} {F : Hp} {t : Bool} : ∀ {vs : List V} {us : List Value} {ls : List (List Int)}, Vals vs us → Rps K F vs (ls.map (encR t)) → PySem.W.EachIs (fun u l => ∃ x, RelV x u ∧ Rp K F x (encR t l)) us ls
  | [], [], [], _, _ => .nil
  | [], [], _ :: _, _, h => by cases h
  | _ :: _, _ :: _, [], _, h => by cases h
  | _ :: _, _ :: _, _ :: _, .cons r rs, .cons q qs => .cons ⟨_, r, q⟩ (each_of rs qs)
theorem of_each {K : PySem.W.Frag} {F : Hp} {t : Bool} {us : List Value} {ls : List (List Int)} (h : PySem.W.EachIs (fun u l => ∃ x, RelV x u ∧ Rp K F x (encR t l)) us ls) : ∃ vs, Vals vs us ∧ Rps K F vs (ls.map (encR t)) := by
  induction h with
  | nil => exact ⟨[], .nil, .nil⟩
  | cons h _ ih =>
    obtain ⟨x, r, q⟩ := h
    obtain ⟨vs, rs, qs⟩ := ih
    exact ⟨x :: vs, .cons r rs, .cons q qs⟩
theorem lay_enc (t : Bool) (l : List Int) : (encR t l).canLay0 = true := by
  have h : ∀ l : List Int, PyData.canLayAll0 (l.map .int) = true := fun l => by
    induction l with
    | nil => simp [PyData.canLayAll0]
    | cons a l ih => simp [PyData.canLayAll0, PyData.canLay0, ih]
  cases t with
  | true => show PyData.canLay0 (.tuple (l.map .int)) = true; simp [PyData.canLay0, h]
  | false => show PyData.canLay0 (.list (l.map .int)) = true; simp [PyData.canLay0, h]
section
variable {X : Cx}
/-- sorted of a list of rows -/
theorem c_sortedR (hu : X.A.units + 65 < cLine) {pins : List (Addr × Obj)} {s : Shared} {σ : L2.St} {H : Hp} {O : Addr → Prop} {a : Addr} {vs : List V} {ls : List (List Int)} {t : Bool} {Q : VK} (I : Inv X pins σ H s) (hl : H a = some (.lst vs)) (r : Rps X.K (hid O H) vs (ls.map (encR t))) (hne : t = true → ∀ l ∈ ls, l ≠ [])
    (q : ∀ p ws, H p = none → Rps X.K (hid O H) ws ((sortL ls).map (encR t)) → Q (.ref p) (upd H p (.lst ws))) : wpAny (model X.prog X.w) X.A (call (.builtin "sorted") [.ref a]) (EP X pins σ Q) X.xe s := by
  obtain ⟨its, rv, pl, hz⟩ := I.list (SqL.of hl)
  have e := each_of rv r
  have lvl : vs.length = ls.length := by rw [r.length, List.length_map]
  have er : PySem.W.EachIs (fun v b => ∃ as, Reads s.heap v (encR t b) as) its ls := e.mono fun u l ⟨x, h1, h2⟩ => Dp.reads I _ x u ((h2.mono hid_sub).dp (lay_enc t l)) h1
  refine PySem.W.sorted_data pl.isList e er (PySem.W.AllAlike.of (alike_enc t)) (sortable_enc t hne) (by omega) (fun b _ => by have := depth_enc t b; omega) fun out hlen ho => ?_
  rw [le_enc, sortL_merge] at ho
  obtain ⟨ws, h1, h2⟩ := of_each ho
  obtain ⟨n, hn⟩ := PyProof.Rows.sortedAll_at s.heap its out.toArray
  have hlw : ws.length ≤ sizeLine := by rw [h2.length, List.length_map, (sortL_perm ls).length_eq]; omega
  exact ⟨.ref (s.heap.objs.size + 1), _, I.laid (t' := s.toks) (fun b o e => PyProof.Rows.sortedAll_old e) (Nat.le_succ _) (show ObjOk X.prog X.w _ _ _ (.lst ws) from ⟨hlw, out, n, h1, hn⟩), rfl, q _ ws (I.hok.fresh (Nat.le_succ _)) h2⟩
theorem b_sortedL (hu : X.A.units + 65 < cLine) : RI X (.builtin "sorted") .sortedL := by
  intro pins s σ H xs us Q I rx h
  obtain ⟨O, ds, d, fr, hf, om, rr, e, q⟩ := h
  have rr' : BRps X.K O H xs ds := rr
  have go : ∀ (ys : List D) (t : Bool) (ls : List (List Int)), ds = [.list ys] → ys = ls.map (encR t) → (t = true → ∀ l ∈ ls, l ≠ []) → d = .list ((sortL ls).map (encR t)) → wpAny (model X.prog X.w) X.A (call (.builtin "sorted") us) (EP X pins σ Q) X.xe s := by
    intro ys t ls e1 e2 e3 e4
    subst e1 e2 e4
    obtain ⟨v, rfl, rv⟩ := rr'.one
    obtain ⟨a, vs, rfl, h1, r⟩ := rv.lst
    rw [Vals.ref1 rx]
    exact c_sortedR hu I h1 r e3 fun p ws np rw' => q.new om np rw'
  rcases ds with _ | ⟨y, _ | ⟨z, r⟩⟩
  · cases (show none = some d from e)
  · cases y <;> first
      | (cases (show none = some d from e); done)
      | skip
    rename_i ys
    have e' : (match toLL ys with
      | some ls => some (.list ((sortL ls).map fun l => .list (l.map .int)))
      | none => (toTT ys).map fun ls => .list ((sortL ls).map fun l => .tuple (l.map .int))) = some d := e
    split at e'
    · rename_i ls hls
      cases e'
      exact go ys false ls rfl (toLL_enc hls) (fun z => by cases z) rfl
    · obtain ⟨ls, hls, rfl⟩ := Option.map_eq_some_iff.mp e'
      exact go ys true ls rfl (toTT_enc hls).1 (fun _ => (toTT_enc hls).2) rfl
  · cases y <;> cases (show none = some d from e)
end
end Pv

set_option Elab.async false
set_option linter.all false
set_option maxRecDepth 100000
set_option maxHeartbeats 1000000
/-! sorted(d), d a dict whose keys are tuples of ints. -/
namespace Pv
open PySem PySem.Spec PyProof.Rows L2

theorem keyInts_enc : ∀ {k : List Key} {l : List Int}, keyInts k = some l → k = l.map Sum.inl
  | [], l, h => by cases h; rfl
  | a :: k, l, h => by
    cases a <;> first
      | (cases h; done)
      | skip
    rename_i i
    have h' : (keyInts k).map (i :: ·) = some l := h
    obtain ⟨m, e, rfl⟩ := Option.map_eq_some_iff.mp h'
    rw [keyInts_enc e]; rfl
theorem keysInts_enc : ∀ {ks : List (List Key)} {ls : List (List Int)}, keysInts ks = some ls → ks = ls.map fun l => l.map Sum.inl
  | [], ls, h => by cases h; rfl
  | k :: ks, ls, h => by
    simp only [keysInts, Option.bind_eq_some_iff, Option.map_eq_some_iff] at h
    obtain ⟨l, e1, ls', e2, rfl⟩ := h
    rw [keyInts_enc e1, keysInts_enc e2]; rfl
section
variable {X : Cx}
/-- the key tuples, as values -/
theorem keys_rps {K : PySem.W.Frag} {O : Addr → Prop} {H : Hp} (om : OM O H) : ∀ {kvs : List (List Key × V)} {bs : List Addr} {ls : List (List Int)}, IsKeys H kvs bs → kvs.map (·.1) = ls.map (fun l => l.map Sum.inl) → Rps K (hid O H) (bs.map .ref) (ls.map (encR true))
  | _, _, [], .nil, _ => .nil
  | _, _, l :: ls, .cons (a := p) (b := b) h r, e => by
    rw [List.map_cons, List.map_cons] at e
    injection e with e1 e2
    rw [List.map_cons, List.map_cons]
    refine .cons ?_ (keys_rps om r e2)
    have h' : H b = some (.tup (p.1.map kV)) := h
    rw [e1, List.map_map] at h'
    refine .tup (hid_iff.mpr ⟨fun z => ?_, h'⟩) (Rps.ofInts l)
    obtain ⟨o, q, m⟩ := om _ z
    rw [h'] at q
    cases q
    exact m
  | _, _, [], .cons _ _, e => by cases e
  | _, _, _ :: _, .nil, e => by cases e
theorem c_sortedDT (hc : X.calm = true) (hu : X.A.units + 65 < cLine) {pins : List (Addr × Obj)} {s : Shared} {σ : L2.St} {H : Hp} {O : Addr → Prop} {d : Addr} {kvs : List (List Key × V)} {ls : List (List Int)} {Q : VK} (I : Inv X pins σ H s) (om : OM O H) (hd : H d = some (.dT kvs)) (hk : kvs.map (·.1) = ls.map (fun l => l.map Sum.inl)) (hne : ∀ l ∈ ls, l ≠ [])
    (q : ∀ p ws, H p = none → Rps X.K (hid O H) ws ((sortL ls).map (encR true)) → Q (.ref p) (upd H p (.lst ws))) : wpAny (model X.prog X.w) X.A (call (.builtin "sorted") [.ref d]) (EP X pins σ Q) X.xe s := by
  obtain ⟨z, hs, ks, pr, o, es, ep, ho, hx, hdt, he, hn⟩ := (show ObjOk X.prog X.w H s.heap d (.dT kvs) from I.hok d _ hd)
  have l1 : es.size = ks.length := size_of_entries he
  have l2 : kvs.length = ks.length := Paired.length pr
  have l3 : kvs.length = ls.length := by
    have := congrArg List.length hk
    rwa [List.length_map, List.length_map] at this
  refine Calls.call_function_entry kind_sorted plain_sorted entry_sorted (args_sorted1 _) ?_
  unfold Builtin.«sorted»
  refine wpAny_bind (m := checkCount "sorted" 1 1 _) (wpAny_pure ?_)
  refine wpAny_bind (PySem.W.kdu_collect (A := X.A.in1) (kdl_raw hs hx hdt) (I.ok.hd hc) ho (by omega) fun h' tk acc kp it => ?_)
  have ea : acc.toList = ks.map fun x => Value.ref x.2.1 := by
    have hl : acc.toList.length = ks.length := by rw [Array.length_toList, it.1]; exact l1
    refine List.ext_getElem? fun j => ?_
    rw [List.getElem?_map]
    cases hj : acc.toList[j]? with
    | none => rw [List.getElem?_eq_none (by have := List.getElem?_eq_none_iff.mp hj; omega)]; rfl
    | some v =>
      obtain ⟨en, hen, hv⟩ := it.2 j v (by rw [← Array.getElem?_toList]; exact hj)
      have qe := entry_at he j
      rw [hen] at qe
      cases hb : ks[j]? with
      | none => rw [hb] at qe; exact nomatch (show some en = none from qe)
      | some b =>
        rw [hb] at qe
        rw [hv, show en = entryOfKey (tupleKind (mixKind X.prog X.w)) b from Option.some.inj qe]
        rfl
  have eb : acc.toList = (ks.map fun x => x.2.1).map Value.ref := by rw [ea, List.map_map]; rfl
  have rv : Vals ((ks.map fun x => x.2.1).map V.ref) acc.toList := by rw [eb]; exact vals_refs _
  have rr : Rps X.K (hid O H) ((ks.map fun x => x.2.1).map V.ref) (ls.map (encR true)) := keys_rps om (isKeys_of pr) hk
  have I1 : Inv X pins σ H { s with heap := h', toks := tk } := I.kept kp
  have e := each_of rv rr
  have hal : acc.toList.length = ls.length := by rw [Array.length_toList, it.1]; omega
  have hz : acc.toList.length ≤ sizeLine := by omega
  refine wpAny_bind (wpAny_newList ?_ hz)
  have hoL : (h'.push (seqObj "list" acc.toList.toArray 0)).get? h'.objs.size = some (seqObj "list" acc.toList.toArray 0) := Heap.get?_push_size _ rfl
  have old : ∀ b ob, h'.get? b = some ob → (PySem.W.sortingHeap (h'.push (seqObj "list" acc.toList.toArray 0)) h'.objs.size acc.toList).get? b = some ob := fun b ob eb =>
    PySem.W.sortingHeap_old (Nat.ne_of_lt (Heap.lt_size eb)) (Heap.get?_push_of_some _ eb)
  have er : PySem.W.EachIs (fun v b => ∃ as, Reads (PySem.W.sortingHeap (h'.push (seqObj "list" acc.toList.toArray 0)) h'.objs.size acc.toList) v (encR true b) as) acc.toList ls := e.mono fun u l ⟨x, h1, h2⟩ => by
    obtain ⟨as, r⟩ := Dp.reads I1 _ x u ((h2.mono hid_sub).dp (lay_enc true l)) h1
    exact ⟨as, PyProof.Rows.Reads.keeps old r⟩
  have al : PySem.W.AllAlike (ls.map (encR true)) := PySem.W.AllAlike.of (alike_enc true)
  show wpAny _ _ _ _ _ { s with heap := h'.push (seqObj "list" acc.toList.toArray 0), toks := tk }
  refine wpAny_bind (wpAny_holding (wpAny_call_entry PyProof.Rows.slot_list_sort ⟨_, hoL, rfl⟩ PyProof.Rows.entry_list_sort
    (PySem.W.list_sort_vals (s := { s with heap := h'.push (seqObj "list" acc.toList.toArray 0), toks := tk }) hoL
      (PySem.W.SortsAt.data (s := { s with heap := PySem.W.sortingHeap (h'.push (seqObj "list" acc.toList.toArray 0)) h'.objs.size acc.toList, toks := tk }) (PySem.W.each_map (R := fun v d => ∃ as, Reads (PySem.W.sortingHeap (h'.push (seqObj "list" acc.toList.toArray 0)) h'.objs.size acc.toList) v d as) (encR true) er) al (sortable_enc true fun _ => hne) (fun d hd => by
        obtain ⟨l, _, rfl⟩ := List.mem_map.mp hd
        have := depth_enc true l
        show X.A.units + 1 + 1 + _ < _
        omega)) hz ⟨_, rfl, ?_⟩) (PyProof.Rows.args_list_sort _)))
  have ho' := PySem.W.sortVals_data false e er al
  rw [le_enc, sortL_merge] at ho'
  obtain ⟨ws, h1, h2⟩ := of_each ho'
  obtain ⟨n, hn'⟩ := PyProof.Rows.sortedHeap_at (out := (PySem.W.sortVals (PySem.W.dataKind (PySem.W.sortingHeap (h'.push (seqObj "list" acc.toList.toArray 0)) h'.objs.size acc.toList) (ls.map (encR true))) false acc.toList acc.toList).toArray) hoL
  have hlw : ws.length ≤ sizeLine := by rw [h2.length, List.length_map, (sortL_perm ls).length_eq]; omega
  refine wpAny_pure ⟨_, rfl, .ref h'.objs.size, upd H h'.objs.size (.lst ws), I1.laid (t' := tk) (fun b u e => ?_) (Nat.le_refl _) (show ObjOk X.prog X.w _ _ _ (.lst ws) from ⟨hlw, _, n, h1, hn'⟩), rfl, q _ ws (I1.hok.fresh (Nat.le_refl _)) h2⟩
  have hb : b < h'.objs.size := Heap.lt_size e
  rw [PyProof.Rows.sortedHeap_old (Nat.ne_of_lt hb) (by rw [size_push']; exact Nat.lt_succ_of_lt hb)]
  exact Heap.get?_push_of_some _ e
end
end Pv

set_option Elab.async false
set_option linter.all false
set_option maxRecDepth 100000
set_option maxHeartbeats 2000000
/-! Set comprehensions of ints (one clause, two), set(a list of ints). -/
namespace Pv
open PySem PySem.Spec PyProof.Rows L2
section
variable {X : Cx}
/-- a number goes into a tracked set -/
theorem set_put {pins : List (Addr × Obj)} {σ : L2.St} {H : Hp} {s : Shared} {E : Value → Shared → Prop} {D : Addr} {S : Int → Bool} {n : Nat} {y : Int} {v : Value} {Q : Value → Shared → Prop} (I : Inv X pins σ H s) (rv : RelV (.int y) v)
    (hD : H D = some (SetO X.w D S n)) (room : n + 1 < scanBound) (h : ∀ s', Inv X pins σ (upd H D (SetO X.w D (fun j => S j || decide (j = y)) (if S y = true then n else n + 1))) s' → Q .none s') :
    wpAny (model X.prog X.w) X.A (call (.builtin "set.add") [.ref D, v]) Q E s := by
  obtain ⟨tk, rfl⟩ := rv
  refine setR_add (setO_get I hD) room fun h' sb nw => h _ ?_
  obtain ⟨o, es, ep, t, ho, more⟩ := id nw
  exact I.write (e := D) (t' := s.toks + 1) (by rw [hD]; exact trivial) (.inl rfl) (fun b u hb e => (sb.2 b hb).trans e) ⟨o, ho⟩ (setO_new nw)

/-- the block of a set comprehension: what its loop is asked -/
def BlkGoal (X : Cx) (pins : List (Addr × Obj)) (σ : L2.St) (elt tg iter : Expr) (gens : List Comprehension) (scope : Scope) (pos : Pos) (vs : List Nat) (wl : It → Addr → Hp → Prop) (Q : VK) : Prop :=
  ∀ (s3 s4 : Shared) (H3 : Hp) (ce : Env) (C : Addr) (cl : List (Str × Addr)) (fp : List Addr) (it D : Addr) (J : It) (tn : Nat → Heap → Prop) (R : Result → Shared → Prop), ce = compEnvC scope cl C X.env → Turn X.prog X.w X.K tg J fp it tn → tn 0 s4.heap →
    (∀ b ∈ fp, H3 b = none) → (∀ b ∈ fp, FpOk X pins H3 b) → Inv (X.blk s3 H3 scope ce fp) [] (wipe σ vs) H3 s4 → wl J D H3 →
    (∀ s' H', Inv (X.blk s3 H3 scope ce fp) [] (wipe σ vs) H' s' → Q (.ref D) H' → R (.ok .next) s') →
    codeAny (model X.prog X.w) X.A (.compLoop (.SetComp elt gens scope pos) 0 (.ref it) (.ref D) ce) R s4
theorem set_block {pins : List (Addr × Obj)} {s : Shared} {σ : L2.St} {H : Hp} {Q : VK} {elt tg iter : Expr} {ifs : List Expr} {more : List Comprehension} {scope : Scope} {own : List (Str × Nat)} {pos : Pos} {wi : TI} {wl : It → Addr → Hp → Prop}
    (hc : X.calm = true) (hN : X.N.Nodup) (I : Inv X pins σ H s) (hi : PI X tg iter wi) (ok : BlkOk X.N X.env.scope scope own) (hs : ∀ x, foldedSetIterable iter X.env x = pure x) (has : firstAsync (⟨tg, iter, ifs, 0⟩ :: more) = false)
    (h : wi σ H fun J H1 => ∀ D, H1 D = none → wl J D (upd H1 D (SetO X.w D (fun _ => false) 0)))
    (loop : BlkGoal X pins σ elt tg iter (⟨tg, iter, ifs, 0⟩ :: more) scope pos (own.map (·.2)) wl Q) :
    wpAny (model X.prog X.w) X.A (eval (.SetComp elt (⟨tg, iter, ifs, 0⟩ :: more) scope pos) X.env) (EP X pins σ Q) X.xe s := by
  have cells : ∀ y ∈ scope.names, y.2 = .free → ∃ c, X.env.cells.lookup y.1 = some c := fun y hy e => (ok.free y hy e).elim (fun k => I.ok.has _ (.inl k)) fun k => I.ok.has _ (.inr k)
  rw [PpSet.eval_SetComp, has]
  refine wpAny_comprehension_free (use := none) rfl hs (closure_ok cells) ok.kind (fun y hy e => by rw [ok.uniq y hy, e]) (thn (hi.run pins s σ H _ I h) fun xv s1 h1 => thn h1 fun itv s2 h2 => ?_)
  obtain ⟨it, fp, tn, J, H2, rfl, I2, T, st2, f2, q⟩ := h2
  refine PpSet.newSet_ok (newEnv_comp ?_)
  have nD : H2 s2.heap.objs.size = none := I2.hok.fresh (Nat.le_refl _)
  have q := q _ nD
  -- the empty set
  generalize hD : s2.heap.objs.size = D at q nD ⊢
  generalize es3 : ({ s2 with heap := s2.heap.push { cls := .type "set", dict := none, data := .set #[] 0 (.fresh 0 0 (!X.w.params.followText "set-order")) } } : Shared) = s3
  have e3 : s3.heap = s2.heap.push { cls := .type "set", dict := none, data := .set #[] 0 (.fresh 0 0 (!X.w.params.followText "set-order")) } := by rw [← es3]
  have I3 : Inv X pins σ (upd H2 D (SetO X.w D (fun _ => false) 0)) s3 := by
    subst es3 hD
    exact I2.laid (t' := s2.toks) (fun b o e => Heap.get?_push_of_some _ e) (Nat.le_refl _) (setO_new (setR_fresh X.w))
  have fpl : ∀ b ∈ fp, b < s2.heap.objs.size := fun b hb => let ⟨_, e, _⟩ := T.obj _ _ st2 b hb; Heap.lt_size e
  have f3 : ∀ b ∈ fp, FpOk X pins (upd H2 D (SetO X.w D (fun _ => false) 0)) b ∧ b < s3.heap.objs.size := fun b hb => by
    have l := fpl b hb
    refine ⟨⟨?_, (f2 b hb).2⟩, ?_⟩
    · rw [upd_ne (by rw [← hD]; exact Nat.ne_of_lt l)]
      exact (f2 b hb).1
    · rw [e3, Heap.size_push]
      exact Nat.lt_succ_of_lt l
  have I4 := block_start I3 ok hN f3
  generalize ece : compEnvC scope (cellsFrom (s3.heap.objs.size + 1) scope.names (cloFrom X.env.cells scope.names [])) s3.heap.objs.size X.env = ce at I4
  have cL : ce.locals = s3.heap.objs.size := by rw [← ece]; rfl
  generalize eH : upd H2 D (SetO X.w D (fun _ => false) 0) = H3 at q I3 f3 I4
  have st4 : tn 0 (pushCells (s3.heap.push { cls := .type "dict", data := .dict #[] }) scope.names) := T.keep _ _ _ st2 fun b _ o e => by
    refine pushCells_keeps _ _ _ _ (Heap.get?_push_of_some _ ?_)
    rw [e3]
    exact Heap.get?_push_of_some _ e
  show codeAny _ _ (.compStart (.SetComp elt (⟨tg, iter, ifs, 0⟩ :: more) scope pos) 0 (.ref it) (.ref D) (compEnvC scope (cellsFrom (s3.heap.objs.size + 1) scope.names (cloFrom X.env.cells scope.names [])) s3.heap.objs.size X.env))
    (compPost (model X.prog X.w) X.A X.xe none (EP X pins σ Q) (.ref D) s3.heap.objs.size) { s3 with heap := pushCells (s3.heap.push { cls := .type "dict", data := .dict #[] }) scope.names }
  rw [ece]
  have go := loop s3 { s3 with heap := pushCells (s3.heap.push { cls := .type "dict", data := .dict #[] }) scope.names } H3 ce s3.heap.objs.size _ fp it D J tn (compPost (model X.prog X.w) X.A X.xe none (EP X pins σ Q) (.ref D) s3.heap.objs.size) ece.symm T st4 (fun b hb => (f3 b hb).1.1) (fun b hb => (f3 b hb).1) I4 q fun s' H' I' qq => by
    -- back in the def
    have J' : Inv X pins σ H' s' := I3.call' (ch := fp) I'.os I'.base I'.hok I'.bare fun b hb => ⟨(f3 b hb).1.2.2.2.1, (f3 b hb).1.2.1, (f3 b hb).1.2.2.2.2.1, (f3 b hb).1.2.2.2.2.2⟩
    have nC : H' ce.locals = none := I'.free
    obtain ⟨m, hn, _⟩ := I'.loc
    have hn : s'.heap.Ns ce.locals m := hn
    rw [cL] at nC hn
    obtain ⟨g0, g1, g2, g3, g4, g5⟩ := I3.fpOk (H' := H') (Nat.le_refl _) nC
    exact ⟨m, hn, fun h'' sb => ⟨.ref D, H', J'.turned (t' := s'.toks) (fun b o hb e => (sb.2 b hb).trans e) g0 g1 g3 g4 g5, rfl, qq⟩⟩
  exact PpSet.codeAny_compStart_set go (T.self X.A 0 _ _ _ st4 go)

/-- {elt for tg in iter if ..}, ints: its loop -/
def tSetLoop (w : World) (g : TG) (tt : TT) (te : TE) (vs : List Nat) (σ : L2.St) (Q : VK) (J : It) (D : Addr) (H0 : Hp) : Prop := ∃ W : Nat → Nat → Hp → Prop, (∃ m, W 0 m H0) ∧ ∀ i m H, W i m H →
  (J.stop i H ∧ Q (.ref D) H) ∨ (J.go i H ∧ ∃ Nx : Hp → Prop, (∀ H', Nx H' → ∃ m', m' < m ∧ W (i + 1) m' H') ∧ ∀ x H', J.yld i H x H' → g x (wipe σ vs) H' fun σ2 H2 => wipe σ2 vs = wipe σ vs ∧ tt σ2 H2 fun b H3 =>
    if b = true then te σ2 H3 fun y H4 => ∃ (c : Int) (S : Int → Bool) (n : Nat), y = .int c ∧ H4 D = some (SetO w D S n) ∧ n + 1 < scanBound ∧ Nx (upd H4 D (SetO w D (fun j => S j || decide (j = c)) (if S c = true then n else n + 1))) else Nx H3)
def tSet1 (w : World) (wi : TI) (g : TG) (tt : TT) (te : TE) (vs : List Nat) : TE := fun σ H Q => wi σ H fun J H1 => ∀ D, H1 D = none → tSetLoop w g tt te vs σ Q J D (upd H1 D (SetO w D (fun _ => false) 0))

/-- what one turn of a block's loop leaves of the iterator -/
theorem turn_stat {pins : List (Addr × Obj)} {s3 s' : Shared} {H3 H' : Hp} {scope : Scope} {ce : Env} {fp : List Addr} {σ' : L2.St} {ps : List (Addr × Obj)} (I' : Inv (X.blk s3 H3 scope ce fp) [] σ' H' s') (hn : ∀ b ∈ fp, H' b = none) :
    ∀ b ∈ fp, FpOk (X.blk s3 H3 scope ce fp) [] H' b := fun b hb =>
  ⟨hn b hb, (I'.ok.exf b hb).1, I'.ok.exfs b hb, .inl hb, fun x c e => (I'.ok.exf b hb).2 x c e, fun p hp => absurd (show p ∈ ([] : List (Addr × Obj)) ++ [] from hp) (by simp)⟩

theorem pe_set1 {elt tg iter : Expr} {ifs : List Expr} {scope : Scope} {own : List (Str × Nat)} {pos : Pos} {wi : TI} {g : TG} {tt : TT} {te : TE} (hc : X.calm = true) (hN : X.N.Nodup) (hi : PI X tg iter wi) (ok : BlkOk X.N X.env.scope scope own)
    (hg : ∀ (s : Shared) (H : Hp) (C : Addr) (cl : List (Str × Addr)) (fp : List Addr), PG (X.blk s H scope (compEnvC scope cl C X.env) fp) tg g) (ht : ∀ (s : Shared) (H : Hp) (C : Addr) (cl : List (Str × Addr)) (fp : List Addr), PTs (X.blk s H scope (compEnvC scope cl C X.env) fp) ifs tt)
    (he : ∀ (s : Shared) (H : Hp) (C : Addr) (cl : List (Str × Addr)) (fp : List Addr), PE (X.blk s H scope (compEnvC scope cl C X.env) fp) elt te) (hs : ∀ x, foldedSetIterable iter X.env x = pure x) :
    PE X (.SetComp elt [⟨tg, iter, ifs, 0⟩] scope pos) (tSet1 X.w wi g tt te (own.map (·.2))) := by
  refine ⟨fun pins s σ H Q I h => set_block (own := own) (wi := wi) (wl := tSetLoop X.w g tt te (own.map fun p : Str × Nat => p.2) σ Q) hc hN I hi ok hs rfl h ?_⟩
  intro s3 s4 H3 ce C cl fp it D J tn R ece T st4 n4 f4 I4 ⟨W, ⟨m0, w0⟩, turn⟩ fin
  have pg := hg s3 H3 C cl fp
  have pt := ht s3 H3 C cl fp
  have pe := he s3 H3 C cl fp
  rw [← ece] at pg pt pe
  refine PpSet.compLoopS_any (fun n s' => ∃ i H', Inv (X.blk s3 H3 scope ce fp) [] (wipe σ (own.map (·.2))) H' s' ∧ tn i s'.heap ∧ (∀ b ∈ fp, H' b = none) ∧ W i n H') ?_ m0 ⟨0, H3, I4, st4, n4, w0⟩
  rintro n s5 ⟨i, H5, I5, st5, n5, w5⟩
  rcases turn i n H5 w5 with ⟨stop, qq⟩ | ⟨go, Nx, hNx, step⟩
  · refine thnF (T.done (X.blk s3 H3 scope ce fp) rfl rfl rfl hc i [] s5 _ H5 (fun _ _ => False) I5 (turn_stat (ps := []) (pins := []) I5 n5) st5 stop) fun r s6 ⟨hr, I6⟩ => ?_
    subst hr
    exact fin s6 H5 I6 qq
  · refine thnF (T.item (X.blk s3 H3 scope ce fp) rfl rfl rfl hc i [] s5 _ H5 (fun _ _ => False) I5 (turn_stat (ps := []) (pins := []) I5 n5) st5 go) fun r s6 ⟨u, hr, h6⟩ => ?_
    subst hr
    refine thnF h6 fun _ s7 ⟨x, H7, I7, r7, y7, st7, n7⟩ => ?_
    have P7 := I7.pinned (turn_stat (ps := []) (pins := []) I7 n7) (T.obj _ _ st7)
    refine thnF (pg.run _ s7 _ H7 x u _ P7 r7 (step x H7 y7)) fun _ s8 ⟨σ8, H8, I8, w8, q8⟩ => ?_
    refine thnF (pt.run _ s8 σ8 H8 _ I8 q8) fun b s9 ⟨H9, I9, q9⟩ => ?_
    have next : ∀ {s' : Shared} {H' : Hp}, Inv (X.blk s3 H3 scope ce fp) ([] ++ pinsAt fp s7.heap) σ8 H' s' → Nx H' → ∃ m, m < n ∧ ∃ i H', Inv (X.blk s3 H3 scope ce fp) [] (wipe σ (own.map (·.2))) H' s' ∧ tn i s'.heap ∧ (∀ b ∈ fp, H' b = none) ∧ W i m H' := fun {s' H'} I' nx => by
      obtain ⟨m', lt, w'⟩ := hNx H' nx
      have stay : ∀ b ∈ fp, ∀ o, s7.heap.get? b = some o → s'.heap.get? b = some o ∧ H' b = none := fun b hb o e =>
        ⟨(I'.pin (b, o) (List.mem_append_right _ (List.mem_append_right _ (mem_pinsAt hb e)))).1, (I'.pin (b, o) (List.mem_append_right _ (List.mem_append_right _ (mem_pinsAt hb e)))).2.1⟩
      refine ⟨m', lt, i + 1, H', (I'.unpinned (pins := [])).weak (by rw [← w8, wipe_length]) (fun j v e => ?_), T.keep _ _ _ st7 fun b hb o e => (stay b hb o e).1, fun b hb => ?_, w'⟩
      · rw [← w8] at e
        exact (wipe_some e).1
      · obtain ⟨o, e, _⟩ := T.obj _ _ st7 b hb
        exact (stay b hb o e).2
    cases b with
    | false => exact next I9 (by simpa using q9)
    | true =>
      have q9 := (if_pos rfl : (if true = true then _ else _) = _).mp q9
      refine thnF (pe.run _ s9 σ8 H9 _ I9 q9) fun z s10 ⟨yv, H10, I10, r10, c, S0, n0, ey, hD10, hz10, nx⟩ => ?_
      subst ey
      exact set_put (X := X.blk s3 H3 scope ce fp) I10 r10 hD10 hz10 fun s11 I11 => next I11 nx
end
end Pv

set_option Elab.async false
set_option linter.all false
set_option maxRecDepth 100000
set_option maxHeartbeats 2000000
/-! Set comprehensions of ints with two clauses. -/
namespace Pv
open PySem PySem.Spec PyProof.Rows L2
abbrev SC2 (elt t0 i0 t1 i1 : Expr) (q0 q1 : List Expr) (scope : Scope) (pos : Pos) : Expr := .SetComp elt [⟨t0, i0, q0, 0⟩, ⟨t1, i1, q1, 0⟩] scope pos
theorem turn2_out (elt t0 i0 t1 i1 : Expr) (q0 q1 : List Expr) (scope : Scope) (pos : Pos) (it acc : Value) (env : Env) : compTurn (SC2 elt t0 i0 t1 i1 q0 q1 scope pos) 0 it acc env = (do
      standAt i0.pos
      match ← pyNext it with
      | none => pure (.done .next)
      | some v =>
        letOwnedTupleGo t0 it v
        assign t0 env v
        let mut go := true
        for c in q0 do
          if go then go ← isTrue c env (eval c env)
        if go then
          let x ← eval i1 env
          standAt i1.pos
          let x ← foldedSetIterable i1 env x
          let _ ← runOwn (.compStart (SC2 elt t0 i0 t1 i1 q0 q1 scope pos) 1 (← holding [x] (pyIter x)) acc env) env
        again (.compLoop (SC2 elt t0 i0 t1 i1 q0 q1 scope pos) 0 it acc env)) := by rfl
theorem turn2_in (elt t0 i0 t1 i1 : Expr) (q0 q1 : List Expr) (scope : Scope) (pos : Pos) (it acc : Value) (env : Env) : compTurn (SC2 elt t0 i0 t1 i1 q0 q1 scope pos) 1 it acc env = (do
      standAt i1.pos
      match ← pyNext it with
      | none => pure (.done .next)
      | some v =>
        letOwnedTupleGo t1 it v
        assign t1 env v
        let mut go := true
        for c in q1 do
          if go then go ← isTrue c env (eval c env)
        if go then
          (do let v ← eval elt env; standAt elt.pos; let _ ← call (.builtin "set.add") [acc, v])
        again (.compLoop (SC2 elt t0 i0 t1 i1 q0 q1 scope pos) 1 it acc env)) := by rfl
section
variable {prog : Program} {w : World} {A : Around} {R : Result → Shared → Prop} {s : Shared} {elt t0 i0 t1 i1 : Expr} {q0 q1 : List Expr} {scope : Scope} {pos : Pos} {it acc : Value} {env : Env}
abbrev Ns (prog : Program) (w : World) (A : Around) (env : Env) (R : Result → Shared → Prop) : Value → Shared → Prop := notedBy (model prog w) A env fun e s' => R (.error e) s'
abbrev Tst (env : Env) (q : List Expr) : Sem Bool := forIn q true fun c r => if r = true then do let ok ← isTrue c env (eval c env); pure (ForInStep.yield ok) else pure (ForInStep.yield r)
theorem set2_outer (hs : ∀ x, foldedSetIterable i1 env x = pure x) (I : Nat → Shared → Prop)
    (turn : ∀ n s, I n s → wpAny (model prog w) A (pyNext it) (fun r s₁ => match r with
      | none => R (.ok .next) s₁
      | some v => wpAny (model prog w) A (letOwnedTupleGo t0 it v) (fun _ s₂ => wpAny (model prog w) A (assign t0 env v) (fun _ s₃ => wpAny (model prog w) A (Tst env q0) (fun ok s₄ =>
          if ok = true then wpAny (model prog w) A (eval i1 env) (fun x s₅ => wpAny (model prog w) A (pyIter x) (fun j s₆ =>
            codeAny (model prog w) A (.compStart (SC2 elt t0 i0 t1 i1 q0 q1 scope pos) 1 j acc env) (fun r s' => match r with
              | .ok _ => ∃ m, m < n ∧ I m s'
              | .error _ => False) s₆) (Ns prog w A env R) s₅) (Ns prog w A env R) s₄
          else ∃ m, m < n ∧ I m s₄) (Ns prog w A env R) s₃) (Ns prog w A env R) s₂) (Ns prog w A env R) s₁) (Ns prog w A env R) s)
    (n : Nat) (h : I n s) : codeAny (model prog w) A (.compLoop (SC2 elt t0 i0 t1 i1 q0 q1 scope pos) 0 it acc env) R s := by
  refine codeAny_loop rfl I (fun n s hI => ?_) n h
  show wpAny _ A ((compTurn (SC2 elt t0 i0 t1 i1 q0 q1 scope pos) 0 it acc env).onRaise (fun x => do noteFrame x env; theTreesLotGoes x)) _ _ s
  refine wpAny_noted ?_
  rw [turn2_out]
  refine wpAny_bind (wpAny_standAt (wpAny_bind (wpAny_mono (turn n s hI) (fun r s₁ h₁ => ?_) fun _ _ z => z)))
  cases r with
  | none => exact wpAny_pure h₁
  | some v =>
    refine wpAny_bind (wpAny_mono h₁ (fun _ s₂ h₂ => wpAny_bind (wpAny_mono h₂ (fun _ s₃ h₃ => wpAny_bind (wpAny_mono h₃ (fun ok s₄ h₄ => ?_) fun _ _ z => z)) fun _ _ z => z)) fun _ _ z => z)
    cases ok with
    | false => exact wpAny_pure ⟨rfl, h₄⟩
    | true =>
      refine wpAny_bind (wpAny_mono h₄ (fun x s₅ h₅ => ?_) fun _ _ z => z)
      refine wpAny_bind (wpAny_standAt (wpAny_bind (wpAny_of_eq (hs x) (wpAny_bind (wpAny_holding (wpAny_mono h₅ (fun j s₆ h₆ => wpAny_bind (wpAny_runOwn ?_)) fun _ _ z => z))))))
      rw [Around.mark_none]
      refine codeAny_mono h₆ fun r s' hr => ?_
      cases r with
      | ok f => first | exact wpAny_pure ⟨rfl, hr⟩ | exact wpAny_bind (wpAny_pure (wpAny_pure ⟨rfl, hr⟩))
      | error e => exact hr.elim
theorem set2_inner (I : Nat → Shared → Prop)
    (turn : ∀ n s, I n s → wpAny (model prog w) A (pyNext it) (fun r s₁ => match r with
      | none => R (.ok .next) s₁
      | some v => wpAny (model prog w) A (letOwnedTupleGo t1 it v) (fun _ s₂ => wpAny (model prog w) A (assign t1 env v) (fun _ s₃ => wpAny (model prog w) A (Tst env q1) (fun ok s₄ =>
          if ok = true then wpAny (model prog w) A (eval elt env) (fun x s₅ => wpAny (model prog w) A (call (.builtin "set.add") [acc, x]) (fun _ s₆ => ∃ m, m < n ∧ I m s₆) (Ns prog w A env R) s₅) (Ns prog w A env R) s₄
          else ∃ m, m < n ∧ I m s₄) (Ns prog w A env R) s₃) (Ns prog w A env R) s₂) (Ns prog w A env R) s₁) (Ns prog w A env R) s)
    (n : Nat) (h : I n s) : codeAny (model prog w) A (.compLoop (SC2 elt t0 i0 t1 i1 q0 q1 scope pos) 1 it acc env) R s := by
  refine codeAny_loop rfl I (fun n s hI => ?_) n h
  show wpAny _ A ((compTurn (SC2 elt t0 i0 t1 i1 q0 q1 scope pos) 1 it acc env).onRaise (fun x => do noteFrame x env; theTreesLotGoes x)) _ _ s
  refine wpAny_noted ?_
  rw [turn2_in]
  refine wpAny_bind (wpAny_standAt (wpAny_bind (wpAny_mono (turn n s hI) (fun r s₁ h₁ => ?_) fun _ _ z => z)))
  cases r with
  | none => exact wpAny_pure h₁
  | some v =>
    refine wpAny_bind (wpAny_mono h₁ (fun _ s₂ h₂ => wpAny_bind (wpAny_mono h₂ (fun _ s₃ h₃ => wpAny_bind (wpAny_mono h₃ (fun ok s₄ h₄ => ?_) fun _ _ z => z)) fun _ _ z => z)) fun _ _ z => z)
    cases ok with
    | false => exact wpAny_pure ⟨rfl, h₄⟩
    | true =>
      exact wpAny_bind (wpAny_bind (wpAny_mono h₄ (fun x s₅ h₅ => wpAny_bind (wpAny_standAt (wpAny_bind (wpAny_mono h₅ (fun _ s₆ h₆ => wpAny_pure (wpAny_pure ⟨rfl, h₆⟩)) fun _ _ z => z)))) fun _ _ z => z))
theorem set2_start (h0 : codeAny (model prog w) A (.compLoop (SC2 elt t0 i0 t1 i1 q0 q1 scope pos) 1 it acc env) R s)
    (h : wpAny (model prog w) A (pyIter it) (fun it' s' => codeAny (model prog w) A (.compLoop (SC2 elt t0 i0 t1 i1 q0 q1 scope pos) 1 it' acc env) R s') (Ns prog w A env R) s) :
    codeAny (model prog w) A (.compStart (SC2 elt t0 i0 t1 i1 q0 q1 scope pos) 1 it acc env) R s := by
  refine codeAny_of_tree ?_
  show wpAny _ _ ((compStart (SC2 elt t0 i0 t1 i1 q0 q1 scope pos) 1 it acc env).onRaise (fun x => do noteFrame x env; standAt theWindowsPlace)) _ _ s
  refine wpAny_notedAt ?_
  unfold compStart
  show wpAny _ _ (ask >>= _) _ _ s
  refine wpAny_bind (wpAny_askSetting (wpAny_ite ?_))
  split
  · first | exact wpAny_bind (wpAny_pure (wpAny_pure ⟨rfl, h0⟩)) | exact wpAny_pure ⟨rfl, h0⟩
  · first
      | exact wpAny_bind (wpAny_rule (wpAny_bind (wpAny_standAt (wpAny_bind (wpAny_mono h (fun j s' hj => wpAny_pure ⟨rfl, hj⟩) fun _ _ z => z)))))
      | (refine wpAny_bind (wpAny_rule ?_); show wpAny _ _ (standAt i1.pos >>= _) _ _ s; exact wpAny_bind (wpAny_standAt (wpAny_bind (wpAny_mono h (fun j s' hj => wpAny_pure ⟨rfl, hj⟩) fun _ _ z => z))))
end

section
variable {X : Cx}
def tSetLoop2 (w : World) (g : TG) (tt : TT) (wi1 : TI) (g1 : TG) (tt1 : TT) (te : TE) (vs vs1 : List Nat) (σ : L2.St) (Q : VK) (J : It) (D : Addr) (H0 : Hp) : Prop := ∃ W : Nat → Nat → Hp → Prop, (∃ m, W 0 m H0) ∧ ∀ i m H, W i m H →
  (J.stop i H ∧ Q (.ref D) H) ∨ (J.go i H ∧ ∃ Nx : Hp → Prop, (∀ H', Nx H' → ∃ m', m' < m ∧ W (i + 1) m' H') ∧ ∀ x H', J.yld i H x H' → g x (wipe σ vs) H' fun σ2 H2 => wipe σ2 vs = wipe σ vs ∧ tt σ2 H2 fun b H3 =>
    if b = true then wi1 σ2 H3 fun J1 H4 => ∃ W1 : Nat → Nat → Hp → Prop, (∃ m, W1 0 m H4) ∧ ∀ j k H, W1 j k H →
      (J1.stop j H ∧ Nx H) ∨ (J1.go j H ∧ ∃ Nx1 : Hp → Prop, (∀ H', Nx1 H' → ∃ k', k' < k ∧ W1 (j + 1) k' H') ∧ ∀ x H', J1.yld j H x H' → g1 x (wipe σ2 vs1) H' fun σ3 H5 => wipe σ3 vs1 = wipe σ2 vs1 ∧ tt1 σ3 H5 fun b H6 =>
        if b = true then te σ3 H6 fun y H7 => ∃ (c : Int) (S : Int → Bool) (n : Nat), y = .int c ∧ H7 D = some (SetO w D S n) ∧ n + 1 < scanBound ∧ Nx1 (upd H7 D (SetO w D (fun j => S j || decide (j = c)) (if S c = true then n else n + 1))) else Nx1 H6)
    else Nx H3)
def tSet2 (w : World) (wi : TI) (g : TG) (tt : TT) (wi1 : TI) (g1 : TG) (tt1 : TT) (te : TE) (vs vs1 : List Nat) : TE := fun σ H Q => wi σ H fun J H1 => ∀ D, H1 D = none → tSetLoop2 w g tt wi1 g1 tt1 te vs vs1 σ Q J D (upd H1 D (SetO w D (fun _ => false) 0))
theorem pe_set2 {elt tg iter tg1 iter1 : Expr} {ifs ifs1 : List Expr} {scope : Scope} {own : List (Str × Nat)} {vs1 : List Nat} {pos : Pos} {wi wi1 : TI} {g g1 : TG} {tt tt1 : TT} {te : TE} (hc : X.calm = true) (hN : X.N.Nodup) (hi : PI X tg iter wi) (ok : BlkOk X.N X.env.scope scope own) (hv : ∀ i ∈ vs1, i ∈ own.map (·.2))
    (hg : ∀ (s : Shared) (H : Hp) (C : Addr) (cl : List (Str × Addr)) (fp : List Addr), PG (X.blk s H scope (compEnvC scope cl C X.env) fp) tg g) (ht : ∀ (s : Shared) (H : Hp) (C : Addr) (cl : List (Str × Addr)) (fp : List Addr), PTs (X.blk s H scope (compEnvC scope cl C X.env) fp) ifs tt)
    (hi1 : ∀ (s : Shared) (H : Hp) (C : Addr) (cl : List (Str × Addr)) (fp : List Addr), PI (X.blk s H scope (compEnvC scope cl C X.env) fp) tg1 iter1 wi1)
    (hg1 : ∀ (s : Shared) (H : Hp) (C : Addr) (cl : List (Str × Addr)) (fp : List Addr), PG (X.blk s H scope (compEnvC scope cl C X.env) fp) tg1 g1) (ht1 : ∀ (s : Shared) (H : Hp) (C : Addr) (cl : List (Str × Addr)) (fp : List Addr), PTs (X.blk s H scope (compEnvC scope cl C X.env) fp) ifs1 tt1)
    (he : ∀ (s : Shared) (H : Hp) (C : Addr) (cl : List (Str × Addr)) (fp : List Addr), PE (X.blk s H scope (compEnvC scope cl C X.env) fp) elt te) (hs : ∀ x, foldedSetIterable iter X.env x = pure x) (hs1 : ∀ env x, foldedSetIterable iter1 env x = pure x) :
    PE X (SC2 elt tg iter tg1 iter1 ifs ifs1 scope pos) (tSet2 X.w wi g tt wi1 g1 tt1 te (own.map (·.2)) vs1) := by
  refine ⟨fun pins s σ H Q I h => set_block (own := own) (wi := wi) (wl := tSetLoop2 X.w g tt wi1 g1 tt1 te (own.map fun p : Str × Nat => p.2) vs1 σ Q) hc hN I hi ok hs rfl h ?_⟩
  intro s3 s4 H3 ce C cl fp it D J tn R ece T st4 n4 f4 I4 ⟨W, ⟨m0, w0⟩, turn⟩ fin
  have pg := hg s3 H3 C cl fp
  have pt := ht s3 H3 C cl fp
  have pi1 := hi1 s3 H3 C cl fp
  have pg1 := hg1 s3 H3 C cl fp
  have pt1 := ht1 s3 H3 C cl fp
  have pe := he s3 H3 C cl fp
  rw [← ece] at pg pt pe pi1 pg1 pt1
  refine set2_outer (hs1 ce) (fun n s' => ∃ i H', Inv (X.blk s3 H3 scope ce fp) [] (wipe σ (own.map (·.2))) H' s' ∧ tn i s'.heap ∧ (∀ b ∈ fp, H' b = none) ∧ W i n H') ?_ m0 ⟨0, H3, I4, st4, n4, w0⟩
  rintro n s5 ⟨i, H5, I5, st5, n5, w5⟩
  rcases turn i n H5 w5 with ⟨stop, qq⟩ | ⟨go, Nx, hNx, step⟩
  · refine thnF (T.done (X.blk s3 H3 scope ce fp) rfl rfl rfl hc i [] s5 _ H5 (fun _ _ => False) I5 (turn_stat (ps := []) (pins := []) I5 n5) st5 stop) fun r s6 ⟨hr, I6⟩ => ?_
    subst hr
    exact fin s6 H5 I6 qq
  · refine thnF (T.item (X.blk s3 H3 scope ce fp) rfl rfl rfl hc i [] s5 _ H5 (fun _ _ => False) I5 (turn_stat (ps := []) (pins := []) I5 n5) st5 go) fun r s6 ⟨u, hr, h6⟩ => ?_
    subst hr
    refine thnF h6 fun _ s7 ⟨x, H7, I7, r7, y7, st7, n7⟩ => ?_
    have P7 := I7.pinned (turn_stat (ps := []) (pins := []) I7 n7) (T.obj _ _ st7)
    refine thnF (pg.run _ s7 _ H7 x u _ P7 r7 (step x H7 y7)) fun _ s8 ⟨σ8, H8, I8, w8, q8⟩ => ?_
    refine thnF (pt.run _ s8 σ8 H8 _ I8 q8) fun b s9 ⟨H9, I9, q9⟩ => ?_
    have l8 : (wipe σ (own.map (·.2))).length = σ8.length := by rw [← w8, wipe_length]
    have k8 : ∀ (j : Nat) v, (wipe σ (own.map (·.2)))[j]? = some (some v) → σ8[j]? = some (some v) := fun j v e => by
      rw [← w8] at e
      exact (wipe_some e).1
    have k9 : ∀ (j : Nat) v, (wipe σ (own.map (·.2)))[j]? = some (some v) → (wipe σ8 vs1)[j]? = some (some v) := fun j v e => by
      rw [← w8] at e
      obtain ⟨e1, e2⟩ := wipe_some e
      rw [wipe_out fun z => e2 (hv j z)]
      exact e1
    have next : ∀ {σ9 : L2.St} {s' : Shared} {H' : Hp}, Inv (X.blk s3 H3 scope ce fp) ([] ++ pinsAt fp s7.heap) σ9 H' s' → (wipe σ (own.map (·.2))).length = σ9.length → (∀ (j : Nat) v, (wipe σ (own.map (·.2)))[j]? = some (some v) → σ9[j]? = some (some v)) → Nx H' →
        ∃ m, m < n ∧ ∃ i H', Inv (X.blk s3 H3 scope ce fp) [] (wipe σ (own.map (·.2))) H' s' ∧ tn i s'.heap ∧ (∀ b ∈ fp, H' b = none) ∧ W i m H' := fun {σ9 s' H'} I' hl hk nx => by
      obtain ⟨m', lt, w'⟩ := hNx H' nx
      have stay : ∀ b ∈ fp, ∀ o, s7.heap.get? b = some o → s'.heap.get? b = some o ∧ H' b = none := fun b hb o e =>
        ⟨(I'.pin (b, o) (List.mem_append_right _ (List.mem_append_right _ (mem_pinsAt hb e)))).1, (I'.pin (b, o) (List.mem_append_right _ (List.mem_append_right _ (mem_pinsAt hb e)))).2.1⟩
      refine ⟨m', lt, i + 1, H', (I'.unpinned (pins := [])).weak hl hk, T.keep _ _ _ st7 fun b hb o e => (stay b hb o e).1, fun b hb => ?_, w'⟩
      obtain ⟨o, e, _⟩ := T.obj _ _ st7 b hb
      exact (stay b hb o e).2
    cases b with
    | false => exact next I9 l8 k8 (by simpa using q9)
    | true =>
      have q9 := (if_pos rfl : (if true = true then _ else _) = _).mp q9
      refine thnF (pi1.run _ s9 σ8 H9 _ I9 q9) fun xv s10 hx => thnF hx fun jt s11 h11 => ?_
      obtain ⟨it1, fp1, tn1, J1, H11, rfl, I11, T1, st11, f11, W1, ⟨m1, w1⟩, turn1⟩ := h11
      have stat1 : ∀ {H' : Hp}, (∀ b ∈ fp1, H' b = none) → ∀ b ∈ fp1, FpOk (X.blk s3 H3 scope ce fp) ([] ++ pinsAt fp s7.heap) H' b := fun hn b hb => ⟨hn b hb, (f11 b hb).2⟩
      have loop1 : codeAny (model X.prog X.w) X.A (.compLoop (SC2 elt tg iter tg1 iter1 ifs ifs1 scope pos) 1 (.ref it1) (.ref D) ce)
          (fun r s' => match r with
            | .ok _ => ∃ m, m < n ∧ ∃ i H', Inv (X.blk s3 H3 scope ce fp) [] (wipe σ (own.map (·.2))) H' s' ∧ tn i s'.heap ∧ (∀ b ∈ fp, H' b = none) ∧ W i m H'
            | .error _ => False) s11 := by
        refine set2_inner (fun k s' => ∃ j H', Inv (X.blk s3 H3 scope ce fp) ([] ++ pinsAt fp s7.heap) (wipe σ8 vs1) H' s' ∧ tn1 j s'.heap ∧ (∀ b ∈ fp1, H' b = none) ∧ W1 j k H') ?_ m1 ⟨0, H11, I11.weak (wipe_length _ _) (fun j v e => (wipe_some e).1), st11, fun b hb => (f11 b hb).1, w1⟩
        rintro k s12 ⟨j, H12, I12, st12, n12, w12⟩
        rcases turn1 j k H12 w12 with ⟨stop1, nx1⟩ | ⟨go1, Nx1, hNx1, step1⟩
        · refine thnF (T1.done (X.blk s3 H3 scope ce fp) rfl rfl rfl hc j _ s12 (wipe σ8 vs1) H12 (fun _ _ => False) I12 (stat1 n12) st12 stop1) fun r s13 ⟨hr, I13⟩ => ?_
          subst hr
          exact next I13 (l8.trans (wipe_length σ8 vs1).symm) k9 nx1
        · refine thnF (T1.item (X.blk s3 H3 scope ce fp) rfl rfl rfl hc j _ s12 (wipe σ8 vs1) H12 (fun _ _ => False) I12 (stat1 n12) st12 go1) fun r s13 ⟨u1, hr, h13⟩ => ?_
          subst hr
          refine thnF h13 fun _ s14 ⟨x1, H14, I14, r14, y14, st14, n14⟩ => ?_
          have P14 := I14.pinned (stat1 n14) (T1.obj _ _ st14)
          refine thnF (pg1.run _ s14 (wipe σ8 vs1) H14 x1 u1 _ P14 r14 (step1 x1 H14 y14)) fun _ s15 ⟨σ15, H15, I15, w15, q15⟩ => ?_
          refine thnF (pt1.run _ s15 σ15 H15 _ I15 q15) fun b1 s16 ⟨H16, I16, q16⟩ => ?_
          have next1 : ∀ {s' : Shared} {H' : Hp}, Inv (X.blk s3 H3 scope ce fp) (([] ++ pinsAt fp s7.heap) ++ pinsAt fp1 s14.heap) σ15 H' s' → Nx1 H' → ∃ m, m < k ∧ ∃ j H', Inv (X.blk s3 H3 scope ce fp) ([] ++ pinsAt fp s7.heap) (wipe σ8 vs1) H' s' ∧ tn1 j s'.heap ∧ (∀ b ∈ fp1, H' b = none) ∧ W1 j m H' := fun {s' H'} I' nx => by
            obtain ⟨m', lt, w'⟩ := hNx1 H' nx
            have stay : ∀ b ∈ fp1, ∀ o, s14.heap.get? b = some o → s'.heap.get? b = some o ∧ H' b = none := fun b hb o e =>
              ⟨(I'.pin (b, o) (List.mem_append_right _ (List.mem_append_right _ (mem_pinsAt hb e)))).1, (I'.pin (b, o) (List.mem_append_right _ (List.mem_append_right _ (mem_pinsAt hb e)))).2.1⟩
            refine ⟨m', lt, j + 1, H', I'.unpinned.weak (by rw [← w15, wipe_length]) (fun j v e => by rw [← w15] at e; exact (wipe_some e).1), T1.keep _ _ _ st14 fun b hb o e => (stay b hb o e).1, fun b hb => ?_, w'⟩
            obtain ⟨o, e, _⟩ := T1.obj _ _ st14 b hb
            exact (stay b hb o e).2
          cases b1 with
          | false => exact next1 I16 (by simpa using q16)
          | true =>
            have q16 := (if_pos rfl : (if true = true then _ else _) = _).mp q16
            refine thnF (pe.run _ s16 σ15 H16 _ I16 q16) fun z s17 ⟨yv, H17, I17, r17, c, S0, n0, ey, hD17, hz17, nx⟩ => ?_
            subst ey
            exact set_put (X := X.blk s3 H3 scope ce fp) I17 r17 hD17 hz17 fun s18 I18 => next1 I18 nx
      exact set2_start loop1 (T1.self X.A 0 _ _ _ st11 loop1)
end
end Pv

set_option Elab.async false
set_option linter.all false
set_option maxRecDepth 100000
set_option maxHeartbeats 4000000
/-! set(a list of ints), sorted, its size. -/
namespace Pv
open PySem PySem.Spec PyProof.Rows L2
abbrev E0 (w : World) : Obj := { cls := .type "set", dict := none, data := .set #[] 0 (.fresh 0 0 (!w.params.followText "set-order")) }
section
variable {P : Program} {w : World} {A : Around} {E : Value → Shared → Prop} {s : Shared}
theorem set_of_list {l : Addr} {items : Array Value} (ns : List Int) {Q : Value → Shared → Prop} (hh : A.handled = none) (hl : s.heap.IsList l items) (hit : IntsAre items.toList ns) (hb : ns.length + 1 < scanBound)
    (h : ∀ (h' : Heap) (tk c : Nat), SetR w h' s.heap.objs.size (fun j => decide (j ∈ ns)) c → c ≤ ns.length → (∀ b o, s.heap.get? b = some o → h'.get? b = some o) → Q (.ref s.heap.objs.size) { s with heap := h', toks := tk }) :
    wpAny (model P w) A (call (.type "set") [.ref l]) Q E s := by
  have isz : items.size = ns.length := by rw [← Array.length_toList]; exact IntsAre.length hit
  obtain ⟨c, tl, hmro⟩ := F.called_set.mro
  have a1 := F.called_set.made
  have a2 := F.called_set.sub
  have a3 := F.called_set.notType
  have a4 := F.called_set.canCreate
  have a5 := F.typeCall_set_1 (.ref l)
  refine wpAny_call (codeAny_of_tree ?_)
  show wpAny _ _ (callAny (.type "set") _) _ _ _
  refine wpAny_pure ⟨Code.quiet_builtin _ (by decide +kernel), codeAny_builtin F.entry_type_call ?_⟩
  rw [Around.under_plain (weight_type_call_type "set" [.ref l] []) rfl]
  repeat (any_goals (first | assumption | wp_step))
  refine codeAny_mono (code_set_led1 (.ref l) (E := E) (Q₁ := fun v s₁ => v = .ref s.heap.objs.size ∧ s₁ = { s with heap := s.heap.push (E0 w) }) ⟨rfl, rfl⟩) fun r s₁ hr => ?_
  match r, hr with
  | .error _, hr => exact hr
  | .ok (.ret v), ⟨ev, es⟩ =>
    subst ev es
    have hS : (s.heap.push (E0 w)).get? s.heap.objs.size = some (E0 w) := Heap.get?_push_size _ rfl
    have hT : Shared.TypeIs { s with heap := s.heap.push (E0 w) } (.ref s.heap.objs.size) "set" := ⟨_, hS, rfl⟩
    have b1 := F.called_set.init.lookup
    have b2 := F.called_set.init.bind (.ref s.heap.objs.size)
    repeat (any_goals (first | assumption | wp_step))
    refine codeAny_mono (codeAny_call_builtin (R := wants (fun r s₂ => r = .none ∧ ∃ h' tk c, s₂ = { s with heap := h', toks := tk } ∧ SetR w h' s.heap.objs.size (fun j => decide (j ∈ ns)) c ∧ c ≤ ns.length ∧
        (∀ b o, s.heap.get? b = some o → h'.get? b = some o)) E) F.called_set.init.plain F.entry_set_init (check_set_init_1 hT ?_)) fun r₂ s₂ hr₂ => ?_
    · obtain ⟨⟨ocls, odict, odata, osl⟩, ho, hc, nl, hd⟩ := hl
      simp only at hc hd
      subst hc hd
      have ho' : (s.heap.push (E0 w)).get? l = some { cls := .type "list", dict := odict, data := .seq items nl, slots := osl } := Heap.get?_push_of_some _ ho
      have c1 := F.sub_list_set
      have c2 := F.sub_list_frozenset
      have c3 : (Value.type "list" == Value.type "dict") = false := by decide
      have hl1 : (s.heap.push (E0 w)).IsList l items := ⟨_, ho', rfl, nl, rfl⟩
      unfold Builtin.«set.__init__» noKeywords Builtin.Frozenset.updateFrom
      generalize hPI : pyIter = PI
      wp_walk
      subst hPI
      refine wpAny_pyIter_list hl1 (wpAny_bind (wpAny_runValue ?_))
      have ll : l < s.heap.objs.size := Heap.lt_size ho
      have z1 : (s.heap.push (E0 w)).objs.size = s.heap.objs.size + 1 := Heap.size_push ..
      have ne1 : l ≠ (s.heap.push (E0 w)).objs.size := by rw [z1]; exact Nat.ne_of_lt (Nat.lt_succ_of_lt ll)
      have ne2 : s.heap.objs.size ∉ [(s.heap.push (E0 w)).objs.size, l] := by
        rw [z1]
        simp only [List.mem_cons, List.mem_singleton, List.not_mem_nil, or_false, not_or]
        exact ⟨Nat.ne_of_lt (Nat.lt_succ_self _), Nat.ne_of_gt ll⟩
      have hval : ∀ (i : Nat) (v : Value), items[i]? = some v → ∃ k t, ns[i]? = some k ∧ v = .int k t := fun i v hv => by
        have hi : i < ns.length := by rw [← isz]; exact (Array.getElem?_eq_some_iff.mp hv).1
        obtain ⟨t, e⟩ := PyProof.Rows.IntsAre.int_at hit i v (by rw [Array.getElem?_toList]; exact hv)
        exact ⟨ns[i], t, List.getElem?_eq_getElem hi, by rw [e, List.getD_eq_getElem?_getD, List.getElem?_eq_getElem hi] <;> rfl⟩
      have hh3 : A.in1.in1.in1.handled = none := by simp [hh]
      refine set_update_ints ((Walks.list hh3 _ l ne1 items).toS) s.heap.objs.size ne2 ns isz hb hval (items.size - 0) 0 _ (by omega) (Nat.zero_le _)
        ⟨⟨_, Heap.get?_push_size _ rfl, rfl, rfl⟩, (hl1.push _)⟩ ⟨0, Nat.le_refl 0, setR_new_at (Heap.get?_push_of_some _ hS)⟩ fun s' c' hm hc' hS' => ?_
      obtain ⟨h', g2, d', tk', os'⟩ := s'
      cases (show g2 = s.gens from hm.gens)
      cases (show d' = s.drawn from hm.drawn)
      cases (show os' = s.os from hm.os)
      show wpAny _ _ _ _ _ _
      refine wpAny_pure ?_
      show wpAny _ _ (ret Value.none) _ _ _
      rw [isz] at hc'
      refine wpAny_pure ⟨rfl, h', tk', c', rfl, hS', hc', fun b o e => hm.heap b o ?_ (Heap.get?_push_of_some _ (Heap.get?_push_of_some _ e))⟩
      have lb : b < s.heap.objs.size := Heap.lt_size e
      simp only [List.mem_cons, List.mem_singleton, List.not_mem_nil, or_false, not_or]
      exact ⟨Nat.ne_of_lt lb, by rw [z1]; exact Nat.ne_of_lt (Nat.lt_succ_of_lt lb)⟩
    · match r₂, hr₂ with
      | .error _, hr₂ => exact hr₂
      | .ok (.ret r), ⟨er, h', tk, c', es, hS', hc', hk'⟩ =>
        subst er es
        repeat (any_goals (first | assumption | wp_step))
        exact h _ _ _ hS' hc' hk'
      | .ok .next, hr₂ => exact hr₂.elim
      | .ok .brk, hr₂ => exact hr₂.elim
      | .ok .cont, hr₂ => exact hr₂.elim
  | .ok .next, hr => exact hr.elim
  | .ok .brk, hr => exact hr.elim
  | .ok .cont, hr => exact hr.elim
end
end Pv

set_option Elab.async false
set_option linter.all false
set_option maxRecDepth 100000
set_option maxHeartbeats 1000000
/-! The environment's relation, readings of expressions. -/
namespace Pv
open PySem PySem.Spec PyProof.Rows L2

/-! ### slots -/
def KD {κ : Type} (K : PySem.W.Frag) (F : Hp) : List (κ × V) → List (κ × D) → Prop := Paired fun (p : κ × V) (q : κ × D) => p.1 = q.1 ∧ Rp K F p.2 q.2
def Own2 (K : PySem.W.Frag) (O : Addr → Prop) (H : Hp) : List Addr → List (List D) → Prop := Paired fun (b : Addr) (ds : List D) => ∃ vs, H b = some (.lst vs) ∧ Rps K (hid O H) vs ds
def EntOk (K : PySem.W.Frag) (O : Addr → Prop) (H : Hp) (as : List Addr) (o : Option V) : Ent → Prop
  | .no => True
  | .val d => ∃ v, o = some v ∧ Rp K (hid O H) v d
  | .own ds => ∃ a vs, o = some (.ref a) ∧ as = [a] ∧ H a = some (.lst vs) ∧ Rps K (hid O H) vs ds
  | .own2 dss => ∃ a bs, o = some (.ref a) ∧ as = a :: bs ∧ as.Nodup ∧ H a = some (.lst (bs.map .ref)) ∧ Own2 K O H bs dss
  | .dcT kvs => ∃ a ws, o = some (.ref a) ∧ as = [a] ∧ H a = some (.dT ws) ∧ KD K (hid O H) ws kvs
  | .dcK kvs => ∃ a ws, o = some (.ref a) ∧ as = [a] ∧ H a = some (.dK ws) ∧ KD K (hid O H) ws kvs
abbrev OA := Nat → List Addr
def at' (σ : L2.St) (i : Nat) : Option V := (σ[i]?).join
structure EO (K : PySem.W.Frag) (L : Nat) (O : Addr → Prop) (H : Hp) (σ : L2.St) (ρ : En) (oa : OA) : Prop where
  len : σ.length = L
  ent : ∀ i, EntOk K O H (oa i) (at' σ i) (ρ.getD i .no)
  own : ∀ i a, a ∈ oa i → O a
  dis : ∀ i j a, a ∈ oa i → a ∈ oa j → i = j

theorem at'_some {σ : L2.St} {i : Nat} {v : V} (h : at' σ i = some v) : σ[i]? = some (some v) := by
  unfold at' at h
  cases q : σ[i]? with
  | none => rw [q] at h; cases h
  | some o =>
    rw [q] at h
    cases o with
    | none => cases h
    | some w => cases (show some w = some v from h); rfl
theorem at'_of {σ : L2.St} {i : Nat} {v : V} (h : σ[i]? = some (some v)) : at' σ i = some v := by unfold at'; rw [h]; rfl
theorem at'_set {σ : L2.St} {i j : Nat} {o : Option V} : at' (σ.set i o) j = if i = j ∧ i < σ.length then o else at' σ j := by
  unfold at'
  by_cases h : i = j
  · subst h
    by_cases hl : i < σ.length
    · rw [List.getElem?_set_self hl, if_pos ⟨rfl, hl⟩]; rfl
    · rw [if_neg (fun z => hl z.2), List.getElem?_eq_none (by simpa using hl), List.getElem?_eq_none (by simpa using hl)]
  · rw [List.getElem?_set_ne h, if_neg (fun z => h z.1)]
theorem getD_set {ρ : En} {i j : Nat} {e : Ent} : (ρ.set i e).getD j .no = if i = j ∧ i < ρ.length then e else ρ.getD j .no := by
  rw [List.getD_eq_getElem?_getD, List.getD_eq_getElem?_getD]
  by_cases h : i = j
  · subst h
    by_cases hl : i < ρ.length
    · rw [List.getElem?_set_self hl, if_pos ⟨rfl, hl⟩]; rfl
    · rw [if_neg (fun z => hl z.2), List.getElem?_eq_none (by simpa using hl), List.getElem?_eq_none (by simpa using hl)]
  · rw [List.getElem?_set_ne h, if_neg (fun z => h z.1)]

theorem Own2.to {K : PySem.W.Frag} {O O' : Addr → Prop} {H H' : Hp} {bs : List Addr} {dss : List (List D)} (h : Own2 K O H bs dss) (s : ∀ a ∈ bs, ∀ o, H a = some o → H' a = some o) (t : Same (hid O H) (hid O' H')) : Own2 K O' H' bs dss := by
  induction h with
  | nil => exact .nil
  | cons p _ ih =>
    obtain ⟨vs, e, r⟩ := p
    exact .cons ⟨vs, s _ (List.mem_cons_self ..) _ e, r.mono t⟩ (ih fun a ha => s a (List.mem_cons_of_mem _ ha))
theorem KD.mono {κ : Type} {K : PySem.W.Frag} {F F' : Hp} {ws : List (κ × V)} {kvs : List (κ × D)} (h : KD K F ws kvs) (t : Same F F') : KD K F' ws kvs := Paired.mapP h fun _ _ q => ⟨q.1, q.2.mono t⟩
theorem EntOk.to {K : PySem.W.Frag} {O O' : Addr → Prop} {H H' : Hp} {as : List Addr} {o : Option V} {e : Ent} (h : EntOk K O H as o e) (s : ∀ a ∈ as, ∀ o, H a = some o → H' a = some o) (t : Same (hid O H) (hid O' H')) : EntOk K O' H' as o e := by
  cases e with
  | no => trivial
  | val d => obtain ⟨v, e1, r⟩ := h; exact ⟨v, e1, r.mono t⟩
  | own ds => obtain ⟨a, vs, e1, e2, e3, r⟩ := h; exact ⟨a, vs, e1, e2, s a (by rw [e2]; simp) _ e3, r.mono t⟩
  | own2 dss =>
    obtain ⟨a, bs, e1, e2, e3, e4, r⟩ := h
    exact ⟨a, bs, e1, e2, e3, s a (by rw [e2]; simp) _ e4, r.to (fun b hb => s b (by rw [e2]; simp [hb])) t⟩
  | dcT kvs => obtain ⟨a, vs, e1, e2, e3, r⟩ := h; exact ⟨a, vs, e1, e2, s a (by rw [e2]; simp) _ e3, r.mono t⟩
  | dcK kvs => obtain ⟨a, vs, e1, e2, e3, r⟩ := h; exact ⟨a, vs, e1, e2, s a (by rw [e2]; simp) _ e3, r.mono t⟩
section
variable {K : PySem.W.Frag} {L : Nat} {O O' : Addr → Prop} {H H' : Hp} {σ : L2.St} {ρ : En} {oa : OA}
theorem EO.to (h : EO K L O H σ ρ oa) (s : ∀ i a, a ∈ oa i → ∀ o, H a = some o → H' a = some o) (t : Same (hid O H) (hid O' H')) (u : ∀ i a, a ∈ oa i → O' a) : EO K L O' H' σ ρ oa :=
  ⟨h.len, fun i => (h.ent i).to (s i) t, u, h.dis⟩
theorem EO.mono (h : EO K L O H σ ρ oa) (s : Same H H') : EO K L O H' σ ρ oa := h.to (fun _ _ _ o e => s _ o e) (hid_same s) h.own
/-- what is newly hidden was not there -/
theorem EO.hide (h : EO K L O H σ ρ oa) (s : Same H H') (n : ∀ a, O' a → O a ∨ H a = none) (u : ∀ a, O a → O' a) : EO K L O' H' σ ρ oa :=
  h.to (fun _ _ _ o e => s _ o e) (hid_new s n) fun i a ha => u a (h.own i a ha)
/-- a slot is set, another owner -/
theorem EO.put {oa' : OA} {i : Nat} {o : Option V} {e : Ent} (h : EO K L O H σ ρ oa) (he : i < L → EntOk K O H (oa' i) o e) (hj : ∀ j, j ≠ i → oa' j = oa j) (hw : ∀ a, a ∈ oa' i → O a) (hd : ∀ j a, j ≠ i → a ∈ oa' i → a ∉ oa j) (hl : i < L) : EO K L O H (σ.set i o) (ρ.set i e) oa' := by
  refine ⟨by rw [List.length_set]; exact h.len, fun j => ?_, fun j a ha => ?_, fun j k a hj' hk' => ?_⟩
  · rw [getD_set, at'_set]
    by_cases hij : i = j
    · subst hij
      rw [if_pos ⟨rfl, by rw [h.len]; exact hl⟩]
      by_cases hr : i < ρ.length
      · rw [if_pos ⟨rfl, hr⟩]; exact he hl
      · rw [if_neg (fun z => hr z.2), show ρ.getD i .no = .no from by rw [List.getD_eq_getElem?_getD, List.getElem?_eq_none (by simpa using hr)]; rfl]
        trivial
    · rw [if_neg (fun z => hij z.1), if_neg (fun z => hij z.1), hj j (Ne.symm hij)]
      exact h.ent j
  · by_cases hji : j = i
    · subst hji; exact hw a ha
    · rw [hj j hji] at ha; exact h.own j a ha
  · by_cases h1 : j = i
    · by_cases h2 : k = i
      · rw [h1, h2]
      · subst h1
        rw [hj k h2] at hk'
        exact absurd hk' (hd k a h2 hj')
    · by_cases h2 : k = i
      · subst h2
        rw [hj j h1] at hj'
        exact absurd hj' (hd j a h1 hk')
      · rw [hj j h1] at hj'
        rw [hj k h2] at hk'
        exact h.dis j k a hj' hk'
def oaSet (oa : OA) (i : Nat) (as : List Addr) : OA := fun j => if j = i then as else oa j
theorem oaSet_self {i : Nat} {as : List Addr} : oaSet oa i as i = as := if_pos rfl
theorem oaSet_ne {i j : Nat} {as : List Addr} (h : j ≠ i) : oaSet oa i as j = oa j := if_neg h
theorem EO.val {i : Nat} {v : V} {d : D} (h : EO K L O H σ ρ oa) (r : Rp K (hid O H) v d) (hl : i < L) : EO K L O H (σ.set i (some v)) (ρ.set i (.val d)) (oaSet oa i []) :=
  h.put (fun _ => ⟨v, rfl, r⟩) (fun j hj => oaSet_ne hj) (fun a ha => by rw [oaSet_self] at ha; cases ha) (fun j a _ ha => by rw [oaSet_self] at ha; cases ha) hl
theorem EO.rd (h : EO K L O H σ ρ oa) {i : Nat} {d : D} {b : Bool} (e : rd b ρ i = some d) : ∃ v, σ[i]? = some (some v) ∧ (if b then BRp K O H v d else Rp K (hid O H) v d) := by
  have q := h.ent i
  unfold Pv.rd at e
  cases z : ρ.getD i .no with
  | val d' =>
    rw [z] at e q
    cases e
    obtain ⟨v, e1, r⟩ := q
    refine ⟨v, at'_some e1, ?_⟩
    cases b with
    | true => exact .inl r
    | false => exact r
  | own ds =>
    rw [z] at e q
    cases b with
    | true =>
      cases e
      obtain ⟨a, vs, e1, e2, e3, r⟩ := q
      exact ⟨_, at'_some e1, .inr ⟨a, vs, ds, rfl, rfl, h.own i a (by rw [e2]; simp), e3, r⟩⟩
    | false => cases e
  | no => rw [z] at e; cases e
  | own2 _ => rw [z] at e; cases e
  | dcT _ => rw [z] at e; cases e
  | dcK _ => rw [z] at e; cases e

/-! slots forgotten -/
theorem wipe_get (vs : List Nat) (j : Nat) : at' (wipe σ vs) j = if j ∈ vs then none else at' σ j := by
  induction vs with
  | nil => simp [wipe]
  | cons v vs ih =>
    unfold wipe
    rw [at'_set, ih]
    by_cases hv : v = j
    · subst hv
      by_cases hl : v < (wipe σ vs).length
      · rw [if_pos ⟨rfl, hl⟩, if_pos (List.mem_cons_self ..)]
      · rw [if_neg (fun z => hl z.2), if_pos (List.mem_cons_self ..)]
        have : at' σ v = none := by
          unfold at'
          rw [List.getElem?_eq_none (by rw [wipe_length] at hl; simpa using hl)]
          rfl
        rw [this]; split <;> rfl
    · rw [if_neg (fun z => hv z.1)]
      by_cases hj : j ∈ vs
      · rw [if_pos hj, if_pos (List.mem_cons_of_mem _ hj)]
      · rw [if_neg hj, if_neg (by simp [hj, Ne.symm hv])]
theorem wipeE_get (vs : List Nat) (j : Nat) : (wipeE ρ vs).getD j .no = if j ∈ vs then .no else ρ.getD j .no := by
  induction vs with
  | nil => simp [wipeE]
  | cons v vs ih =>
    unfold wipeE
    rw [getD_set, ih]
    by_cases hv : v = j
    · subst hv
      by_cases hl : v < (wipeE ρ vs).length
      · rw [if_pos ⟨rfl, hl⟩, if_pos (List.mem_cons_self ..)]
      · rw [if_neg (fun z => hl z.2), if_pos (List.mem_cons_self ..)]
        have len : ∀ us : List Nat, (wipeE ρ us).length = ρ.length := fun us => by
          induction us with
          | nil => rfl
          | cons u us ih => unfold wipeE; rw [List.length_set]; exact ih
        have : ρ.getD v .no = .no := by
          rw [List.getD_eq_getElem?_getD, List.getElem?_eq_none (by rw [len] at hl; simpa using hl)]
          rfl
        rw [this]; split <;> rfl
    · rw [if_neg (fun z => hv z.1)]
      by_cases hj : j ∈ vs
      · rw [if_pos hj, if_pos (List.mem_cons_of_mem _ hj)]
      · rw [if_neg hj, if_neg (by simp [hj, Ne.symm hv])]
/-- only slots of is changed -/
def Diff (is : List Nat) (σ σ' : L2.St) : Prop := σ'.length = σ.length ∧ ∀ j, j ∉ is → σ'[j]? = σ[j]?
theorem Diff.refl (is : List Nat) (σ : L2.St) : Diff is σ σ := ⟨rfl, fun _ _ => rfl⟩
theorem Diff.trans {is : List Nat} {σ1 σ2 σ3 : L2.St} (a : Diff is σ1 σ2) (b : Diff is σ2 σ3) : Diff is σ1 σ3 := ⟨b.1.trans a.1, fun j hj => (b.2 j hj).trans (a.2 j hj)⟩
theorem Diff.mono {is js : List Nat} {σ1 σ2 : L2.St} (a : Diff is σ1 σ2) (h : ∀ i ∈ is, i ∈ js) : Diff js σ1 σ2 := ⟨a.1, fun j hj => a.2 j fun z => hj (h j z)⟩
theorem Diff.set (i : Nat) (σ : L2.St) (o : Option V) : Diff [i] σ (σ.set i o) := ⟨List.length_set .., fun j hj => by rw [List.getElem?_set_ne (by simpa using Ne.symm (show j ≠ i by simpa using hj))]⟩
theorem wipe_raw (vs : List Nat) (σ : L2.St) (j : Nat) : (wipe σ vs)[j]? = if j ∈ vs then (if j < σ.length then some none else none) else σ[j]? := by
  induction vs with
  | nil => simp [wipe]
  | cons v vs ih =>
    unfold wipe
    by_cases hv : v = j
    · subst hv
      rw [if_pos (List.mem_cons_self ..)]
      by_cases hl : v < σ.length
      · rw [List.getElem?_set_self (by rw [wipe_length]; exact hl), if_pos hl]
      · rw [List.getElem?_eq_none (by rw [List.length_set, wipe_length]; omega), if_neg hl]
    · rw [List.getElem?_set_ne hv, ih]
      by_cases hj : j ∈ vs
      · rw [if_pos hj, if_pos (List.mem_cons_of_mem _ hj)]
      · rw [if_neg hj, if_neg (by simp [hj, Ne.symm hv])]
theorem Diff.wipe {is vs : List Nat} {σ σ' : L2.St} (d : Diff is σ σ') (h : ∀ i ∈ is, i ∈ vs) : wipe σ' vs = wipe σ vs := by
  refine List.ext_getElem? fun j => ?_
  rw [wipe_raw, wipe_raw, d.1]
  by_cases hj : j ∈ vs
  · rw [if_pos hj, if_pos hj]
  · rw [if_neg hj, if_neg hj, d.2 j fun z => hj (h j z)]
theorem wipe_wipe (vs : List Nat) (σ : L2.St) : L2.wipe (L2.wipe σ vs) vs = L2.wipe σ vs := by
  refine List.ext_getElem? fun j => ?_
  rw [wipe_raw, wipe_raw, wipe_length]
  by_cases hj : j ∈ vs
  · rw [if_pos hj, if_pos hj]
  · rw [if_neg hj, if_neg hj]
theorem EO.wipe (h : EO K L O H σ ρ oa) (vs : List Nat) : EO K L O H (wipe σ vs) (wipeE ρ vs) oa :=
  ⟨by rw [wipe_length]; exact h.len, fun i => by
    rw [wipe_get, wipeE_get]
    by_cases hi : i ∈ vs
    · rw [if_pos hi, if_pos hi]; trivial
    · rw [if_neg hi, if_neg hi]; exact h.ent i, h.own, h.dis⟩
/-- slots forgotten on the one side -/
theorem EO.wipeR (h : EO K L O H σ ρ oa) (vs : List Nat) : EO K L O H σ (wipeE ρ vs) oa :=
  ⟨h.len, fun i => by
    rw [wipeE_get]
    by_cases hi : i ∈ vs
    · rw [if_pos hi]; trivial
    · rw [if_neg hi]; exact h.ent i, h.own, h.dis⟩
end

/-! ### readings -/
def RB (K : PySem.W.Frag) (O : Addr → Prop) (H : Hp) (b : Bool) (v : V) (d : D) : Prop := if b then BRp K O H v d else Rp K (hid O H) v d
def RBs (K : PySem.W.Frag) (O : Addr → Prop) (H : Hp) (b : Bool) (vs : List V) (ds : List D) : Prop := if b then BRps K O H vs ds else Rps K (hid O H) vs ds
def PostB (K : PySem.W.Frag) (O : Addr → Prop) (H : Hp) (b fr : Bool) (d : D) (Q : VK) : Prop := if b then ∀ v H', Same H H' → BRp K O H' v d → Q v H' else Post K O H fr d Q
section
variable {K : PySem.W.Frag} {L : Nat} {O O' : Addr → Prop} {H H' : Hp} {σ : L2.St} {ρ : En} {oa : OA} {b : Bool}
theorem RB.toB {v : V} {d : D} (h : RB K O H b v d) : BRp K O H v d := by
  cases b with
  | true => exact h
  | false => exact .inl h
theorem RBs.toB {v : List V} {d : List D} (h : RBs K O H b v d) : BRps K O H v d := by
  cases b with
  | true => exact h
  | false => exact Rps.b h
theorem RB.mono (s : Same H H') {v : V} {d : D} (h : RB K O H b v d) : RB K O H' b v d := by
  cases b with
  | true => exact BRp.mono s h
  | false => exact Rp.mono (hid_same s) h
theorem RBs.mono (s : Same H H') {v : List V} {d : List D} (h : RBs K O H b v d) : RBs K O H' b v d := by
  cases b with
  | true => exact BRps.mono s h
  | false => exact Rps.mono (hid_same s) h
theorem PostB.ofPost {fr : Bool} {d : D} {Q : VK} (h : PostB K O H true fr d Q) : Post K O H false d Q := fun v H' s r _ => h v H' s (.inl r)
theorem Post.up {fr : Bool} {d : D} {Q : VK} (h : Post K O H false d Q) : Post K O H fr d Q := fun v H' s r _ => h v H' s r fun z => by cases z
/-- any post, as one for a result that need not be new -/
theorem PostB.post {fr : Bool} {d : D} {Q : VK} (h : PostB K O H b fr d Q) : Post K O H fr d Q := by
  cases b with
  | true => exact (PostB.ofPost h).up
  | false => exact h
end

def tE (K : PySem.W.Frag) (G : Cfg) (L : Nat) (b : Bool) (e : Xp) : TE := fun σ H Q => ∃ O ρ oa d, OM O H ∧ EO K L O H σ ρ oa ∧ ev G b e ρ = some d ∧ PostB K O H b (frE G.Fr e) d Q
def tAs (K : PySem.W.Frag) (G : Cfg) (L : Nat) (b : Bool) (es : Xps) : TA := fun σ H Q => ∃ O ρ oa ds, OM O H ∧ EO K L O H σ ρ oa ∧ evs G b es ρ = some ds ∧ ∀ vs H', Same H H' → RBs K O H' b vs ds → Q vs H'
def tTst (K : PySem.W.Frag) (G : Cfg) (L : Nat) (e : Xp) : TT := fun σ H Q => ∃ O ρ oa t, OM O H ∧ EO K L O H σ ρ oa ∧ (ev G false e ρ).bind asBool = some t ∧ ∀ H', Same H H' → Q t H'
theorem asBool_some {d : D} {t : Bool} (h : asBool d = some t) : d = .bool t := by
  cases d <;> first | (cases h; rfl) | cases h
theorem asInt_some {d : D} {t : Int} (h : asInt d = some t) : d = .int t := by
  cases d <;> first | (cases h; rfl) | cases h
section
variable {X : Cx}
theorem _root_.L2.PE.imp {e : Expr} {t t' : TE} (h : PE X e t) (i : ∀ σ H Q, t' σ H Q → t σ H Q) : PE X e t' := ⟨fun pins s σ H Q I hw => h.run pins s σ H Q I (i _ _ _ hw)⟩
theorem _root_.L2.PT.imp {e : Expr} {t t' : TT} (h : PT X e t) (i : ∀ σ H Q, t' σ H Q → t σ H Q) : PT X e t' := ⟨fun pins s σ H Q I hw => h.run pins s σ H Q I (i _ _ _ hw)⟩
theorem _root_.L2.PW.imp {e : Expr} {t t' : TT} (h : PW X e t) (i : ∀ σ H Q, t' σ H Q → t σ H Q) : PW X e t' := ⟨fun wh pins s σ H Q I hw => h.run wh pins s σ H Q I (i _ _ _ hw)⟩
theorem _root_.L2.PA.imp {es : List Expr} {t t' : TA} (h : PA X es t) (i : ∀ σ H Q, t' σ H Q → t σ H Q) : PA X es t' := ⟨fun p pins s σ H Q I hw => h.run p pins s σ H Q I (i _ _ _ hw)⟩
theorem _root_.L2.PI.imp {tg it : Expr} {t t' : TI} (h : PI X tg it t) (i : ∀ σ H Q, t' σ H Q → t σ H Q) : PI X tg it t' := ⟨fun pins s σ H Q I hw => h.run pins s σ H Q I (i _ _ _ hw)⟩
theorem _root_.L2.PI.or {tg it : Expr} {t t' : TI} (h : PI X tg it t) (h' : PI X tg it t') : PI X tg it (fun σ H Q => t σ H Q ∨ t' σ H Q) := ⟨fun pins s σ H Q I hw => hw.elim (h.run pins s σ H Q I) (h'.run pins s σ H Q I)⟩
theorem _root_.L2.PG.imp {tg : Expr} {t t' : TG} (h : PG X tg t) (i : ∀ v σ H Q, t' v σ H Q → t v σ H Q) : PG X tg t' := ⟨fun pins s σ H v u Q I r hw => h.run pins s σ H v u Q I r (i _ _ _ _ hw)⟩
theorem _root_.L2.PGs.imp {tg : List Expr} {t t' : TGs} (h : PGs X tg t) (i : ∀ v σ H Q, t' v σ H Q → t v σ H Q) : PGs X tg t' := ⟨fun pins s σ H v u Q I r hw => h.run pins s σ H v u Q I r (i _ _ _ _ hw)⟩
theorem _root_.L2.PTs.imp {ifs : List Expr} {t t' : TT} (h : PTs X ifs t) (i : ∀ σ H Q, t' σ H Q → t σ H Q) : PTs X ifs t' := ⟨fun pins s σ H Q I hw => h.run pins s σ H Q I (i _ _ _ hw)⟩
end
end Pv

set_option Elab.async false
set_option linter.all false
set_option maxRecDepth 100000
set_option maxHeartbeats 1000000
/-! Expressions by constructors. -/
namespace Pv
open PySem PySem.Spec PyProof.Rows L2

def isStar : Expr → Bool
  | .Starred .. => true
  | _ => false
def isSlice : Expr → Bool
  | .Slice .. => true
  | _ => false
def isSet : Expr → Bool
  | .Set .. => true
  | _ => false
def isTest : Expr → Bool
  | .UnaryOp .Not _ _ => true
  | .BoolOp .. => true
  | .IfExp .. => true
  | .Compare .. => true
  | _ => false
theorem star_cons {e : Expr} {es : List Expr} {env : Env} (h : isStar e = false) : starEach (e :: es) env = (false, eval e env) :: starEach es env := by
  cases e <;> first | rfl | cases h
theorem star_none (pos : Pos) (env : Env) : ∀ es : List Expr, (es.all fun e => !isStar e) = true → (backTo pos (starEach es env)).any (·.1) = false
  | [], _ => rfl
  | e :: es, h => by
    have h' : (!isStar e) = true ∧ (es.all fun e => !isStar e) = true := by simpa using h
    rw [star_cons (by simpa using h'.1)]
    have := star_none pos env es h'.2
    show (false || (backTo pos (starEach es env)).any (·.1)) = false
    rw [this]; rfl
theorem plain_ix {e : Expr} (h : isSlice e = false) : PlainIx e := fun o i => by
  cases e <;> first | rfl | cases h
theorem fold_set {e : Expr} {env : Env} (h : isSet e = false) (x : Value) : foldedSetIterable e env x = pure x := by
  cases e <;> first | rfl | cases h
theorem is_true {e : Expr} {env : Env} (h : isTest e = false) (whole : Sem Value) : isTrue e env whole = (do let v ← whole; standAt e.pos; holding [v] (truthy v)) := by
  cases e <;> first | rfl | (cases h; done) | skip
  rename_i o _ _
  cases o <;> first | rfl | cases h
theorem no_marks {o : CmpOp} {e : Expr} (h : isSet e = false) : behindInMarks o e = false := by
  cases e <;> first | rfl | cases h

section
variable {X : Cx} {G : Cfg} {L : Nat} {b : Bool} {pos p : Pos}
abbrev TEf (X : Cx) (G : Cfg) (L : Nat) (b : Bool) (e : Xp) : TE := tE X.K G L b e
theorem ev_b {e : Xp} (h : ∀ i, e ≠ .var i) (ρ : En) : ev G true e ρ = ev G false e ρ := by
  cases e <;> first | rfl | exact absurd rfl (h _)
/-- what is read at once -/
theorem _root_.L2.PE.lift {ex : Expr} {e : Xp} (h : PE X ex (tE X.K G L false e)) (n : ∀ i, e ≠ .var i) : PE X ex (tE X.K G L true e) := h.imp fun σ H Q q => by
  obtain ⟨O, ρ, oa, d, om, eo, e, q⟩ := q
  rw [ev_b n] at e
  exact ⟨O, ρ, oa, d, om, eo, e, (PostB.ofPost q).up⟩
theorem e_var {i : Nat} {x : Str} (hN : X.N[i]? = some x) (hv : Vis X.env.scope x) (hd : (x == ("__debug__" : Str)) = false) (hcd : (x == ("__classdict__" : Str)) = false) : PE X (.Name x pos) (tE X.K G L b (.var i)) :=
  (pe_var hN hv hd hcd).imp fun σ H Q q => by
    obtain ⟨O, ρ, oa, d, om, eo, e, q⟩ := q
    obtain ⟨v, e1, r⟩ := eo.rd e
    refine ⟨v, e1, ?_⟩
    cases b with
    | true => exact q v H (Same.refl H) r
    | false => exact q v H (Same.refl H) r fun z => by cases z
theorem e_glb {i : Int} {x : Str} {t : Tok} (hg : Gl X x) (hm : X.mg x = some (.int i t)) (hd : (x == ("__debug__" : Str)) = false) : PE X (.Name x pos) (tE X.K G L false (.glb x i)) :=
  (pe_glob (v := .int i) hg hm ⟨t, rfl⟩ hd).imp fun σ H Q q => by
    obtain ⟨O, ρ, oa, d, om, eo, e, q⟩ := q
    cases e
    exact q.post.here (.int i) ni
def conE : Cn → Expr → Bool
  | .none, .Constant .none _ _ => true
  | .bool b, .Constant (.bool c) _ _ => decide (b = c)
  | .int b, .Constant (.int c) _ _ => decide (b = c)
  | .str b, .Constant (.str c) _ _ => decide (b = c)
  | _, _ => false
theorem e_con {c : Cn} {ex : Expr} (h : conE c ex = true) : PE X ex (tE X.K G L false (.con c)) := by
  cases c <;> cases ex <;> first | (cases h; done) | skip
  all_goals (rename_i v k ps; cases v <;> first | (cases h; done) | skip)
  · exact pe_non.imp fun σ H Q q => by
      obtain ⟨O, ρ, oa, d, om, eo, e, q⟩ := q
      cases e
      exact q.post.here .non fun ds z => by cases z
  · obtain rfl := of_decide_eq_true h
    exact pe_bl.imp fun σ H Q q => by
      obtain ⟨O, ρ, oa, d, om, eo, e, q⟩ := q
      cases e
      exact q.post.here (.bl _) fun ds z => by cases z
  · obtain rfl := of_decide_eq_true h
    exact pe_int.imp fun σ H Q q => by
      obtain ⟨O, ρ, oa, d, om, eo, e, q⟩ := q
      cases e
      exact q.post.here (.int _) fun ds z => by cases z
  · obtain rfl := of_decide_eq_true h
    exact pe_str.imp fun σ H Q q => by
      obtain ⟨O, ρ, oa, d, om, eo, e, q⟩ := q
      cases e
      exact q.post.here (.str _) fun ds z => by cases z
variable {a c a2 a3 : Expr} {x y z u : Xp}
theorem op_go {o : O2} {σ : L2.St} {H : Hp} {Q : VK} (h : tE X.K G L false (.op o x y) σ H Q) : tOp (rO X.K o) (tE X.K G L true x) (tE X.K G L true y) σ H Q := by
  obtain ⟨O, ρ, oa, d, om, eo, e, q⟩ := h
  simp only [ev, Option.bind_eq_some_iff] at e
  obtain ⟨dx, ex, dy, ey, e⟩ := e
  refine ⟨O, ρ, oa, dx, om, eo, ex, fun v H1 s1 r1 => ⟨O, ρ, oa, dy, om.mono s1, eo.mono s1, ey, fun w H2 s2 r2 => ?_⟩⟩
  exact ⟨O, dx, dy, d, _, om.mono (s1.trans s2), r1.mono s2, r2, e, q.post.mono (s1.trans s2)⟩
theorem e_bin {o : O2} {k : Operator} (ho : bop o = some k) (ha : PE X a (tE X.K G L true x)) (hb : PE X c (tE X.K G L true y)) : PE X (.BinOp a k c pos) (tE X.K G L false (.op o x y)) :=
  (pe_op (o_bin ho) ha hb).imp fun _ _ _ h => op_go h
theorem e_cmp (hu : X.A.units + 65 < cLine) {o : O2} {k : CmpOp} (ho : cop o = some k) (ha : PE X a (tE X.K G L true x)) (hb : PE X c (tE X.K G L true y)) (hm : isSet c = false) : PE X (.Compare a [k] [c] pos) (tE X.K G L false (.op o x y)) :=
  (pe_cmpR (o_cmp hu ho) ha hb (no_marks hm)).imp fun _ _ _ h => op_go h
/-- from a value to a test -/
theorem tst_of {e : Xp} {σ : L2.St} {H : Hp} {Q : Bool → Hp → Prop} (h : tTst X.K G L e σ H Q) : tE X.K G L false e σ H (fun v H' => ∃ k, v = .bl k ∧ Q k H') := by
  obtain ⟨O, ρ, oa, t, om, eo, e, q⟩ := h
  obtain ⟨d, e1, e2⟩ := Option.bind_eq_some_iff.mp e
  obtain rfl := asBool_some e2
  exact ⟨O, ρ, oa, _, om, eo, e1, fun v H' s r _ => by cases r; exact ⟨t, rfl, q H' s⟩⟩
theorem t_val {ex : Expr} {e : Xp} (h : PE X ex (tE X.K G L false e)) (n : isTest ex = false) : PT X ex (tTst X.K G L e) := (pt_val h (is_true n)).imp fun _ _ _ h => tst_of h
theorem t_cmp (hu : X.A.units + 65 < cLine) {o : O2} {k : CmpOp} (ho : cop o = some k) (ha : PE X a (tE X.K G L true x)) (hb : PE X c (tE X.K G L true y)) (hm : isSet c = false) : PT X (.Compare a [k] [c] pos) (tTst X.K G L (.op o x y)) :=
  (pt_cmpR (o_cmp hu ho) ha hb (no_marks hm)).imp fun _ _ _ h => op_go (tst_of h)
theorem ch_go {o o' : O2} {σ : L2.St} {H : Hp} {Q : VK} (h : tE X.K G L false (.ch o o' x y z) σ H Q) : tChain (rO X.K o) (rO X.K o') (tE X.K G L true x) (tE X.K G L true y) (tE X.K G L true z) σ H Q := by
  obtain ⟨O, ρ, oa, d, om, eo, e, q⟩ := h
  simp only [ev, Option.bind_eq_some_iff] at e
  obtain ⟨dx, ex, dy, ey, r, er, t, et, e⟩ := e
  obtain rfl := asBool_some et
  refine ⟨O, ρ, oa, dx, om, eo, ex, fun v H1 s1 r1 => ⟨O, ρ, oa, dy, om.mono s1, eo.mono s1, ey, fun w H2 s2 r2 => ?_⟩⟩
  refine ⟨O, dx, dy, .bool t, false, om.mono (s1.trans s2), r1.mono s2, r2, er, fun v3 H3 s3 r3 _ => ?_⟩
  cases r3
  refine ⟨t, rfl, ?_⟩
  have s13 := (s1.trans s2).trans s3
  cases t with
  | false =>
    cases e
    exact (q.post.mono s13).here (.bl _) nb
  | true =>
    simp only [if_true, Option.bind_eq_some_iff] at e ⊢
    obtain ⟨dz, ez, e⟩ := e
    refine ⟨O, ρ, oa, dz, om.mono s13, eo.mono s13, ez, fun v4 H4 s4 r4 => ?_⟩
    exact ⟨O, dy, dz, d, _, om.mono (s13.trans s4), r2.mono (s3.trans s4), r4, e, q.post.mono (s13.trans s4)⟩
theorem last_marks {k k2 : CmpOp} {e e2 : Expr} (h : isSet e2 = false) : lastMarks [k, k2] [e, e2] = false := no_marks h
theorem last_marks3 {k k2 k3 : CmpOp} {e e2 e3 : Expr} (h : isSet e3 = false) : lastMarks [k, k2, k3] [e, e2, e3] = false := no_marks h
theorem e_ch (hu : X.A.units + 65 < cLine) {o o' : O2} {k k' : CmpOp} (ho : cop o = some k) (ho' : cop o' = some k') (ha : PE X a (tE X.K G L true x)) (hb : PE X c (tE X.K G L true y)) (hc : PE X a2 (tE X.K G L true z)) (hm : isSet a2 = false) :
    PE X (.Compare a [k, k'] [c, a2] pos) (tE X.K G L false (.ch o o' x y z)) ∧ PT X (.Compare a [k, k'] [c, a2] pos) (tTst X.K G L (.ch o o' x y z)) :=
  ⟨(pe_chain (o_cmp hu ho) (o_cmp hu ho') ha hb hc (last_marks hm)).imp fun _ _ _ h => ch_go h, (pt_chain (o_cmp hu ho) (o_cmp hu ho') ha hb hc (last_marks hm)).imp fun _ _ _ h => ch_go (tst_of h)⟩
/-! three comparisons in a row -/
def tChain3 (r r' r2 : R2) (ta tb tc td : TE) : TE := fun σ H Q => ta σ H fun x H1 => tb σ H1 fun y H2 => r x y H2 fun z H3 => ∃ k, z = .bl k ∧
  (if k = true then tc σ H3 fun w' H4 => r' y w' H4 fun z2 H5 => ∃ k2, z2 = .bl k2 ∧ (if k2 = true then td σ H5 fun w2 H6 => r2 w' w2 H6 Q else Q (.bl false) H5) else Q (.bl false) H3)
theorem pe_chain3 {o1 o2 o3 : CmpOp} {r r' r2 : R2} {ta tb tc td : TE} (h1 : OpR X (compareOp o1) r) (h2 : OpR X (compareOp o2) r') (h3 : OpR X (compareOp o3) r2) (ha : PE X a ta) (hb : PE X c tb) (hc : PE X a2 tc) (hd : PE X a3 td)
    (hm : lastMarks [o1, o2, o3] [c, a2, a3] = false) : PE X (.Compare a [o1, o2, o3] [c, a2, a3] pos) (tChain3 r r' r2 ta tb tc td) := by
  refine ⟨fun pins s σ H Q I h => ?_⟩
  refine Compare_chain (thn (ha.run pins s σ H _ I h) fun v s1 ⟨x, H1, I1, r1, q1⟩ => chain_link (thn (hb.run pins s1 σ H1 _ I1 q1) fun u s2 ⟨y, H2, I2, r2, q2⟩ =>
    thn (h1 pins s2 σ H2 x y v u _ I2 r1 r2 q2) fun d s3 ⟨z, H3, I3, r3, k, e, q3⟩ => ?_)) hm
  subst e
  cases r3
  refine wpAny_truthy_bool ?_
  cases k with
  | false => exact ite_ff ⟨.bl false, H3, I3, rfl, q3⟩
  | true =>
    refine ite_tt (chain_link (thn (hc.run pins s3 σ H3 _ I3 q3) fun w' s4 ⟨z', H4, I4, r4, q4⟩ => thn (h2 pins s4 σ H4 y z' u w' _ I4 r2 r4 q4) fun d2 s5 ⟨z2, H5, I5, r5, k2, e2, q5⟩ => ?_))
    subst e2
    cases r5
    refine wpAny_truthy_bool ?_
    cases k2 with
    | false => exact ite_ff ⟨.bl false, H5, I5, rfl, q5⟩
    | true => exact ite_tt (chain_last (thn (hd.run pins s5 σ H5 _ I5 q5) fun w2 s6 ⟨z3, H6, I6, r6, q6⟩ => h3 pins s6 σ H6 z' z3 w' w2 Q I6 r4 r6 q6))
theorem pt_chain3 {o1 o2 o3 : CmpOp} {r r' r2 : R2} {ta tb tc td : TE} (h1 : OpR X (compareOp o1) r) (h2 : OpR X (compareOp o2) r') (h3 : OpR X (compareOp o3) r2) (ha : PE X a ta) (hb : PE X c tb) (hc : PE X a2 tc) (hd : PE X a3 td)
    (hm : lastMarks [o1, o2, o3] [c, a2, a3] = false) : PT X (.Compare a [o1, o2, o3] [c, a2, a3] pos) (tTest (tChain3 r r' r2 ta tb tc td)) := by
  refine ⟨fun pins s σ H Q I h => ?_⟩
  refine isTrue_chain (thn (ha.run pins s σ H _ I h) fun v s1 ⟨x, H1, I1, r1, q1⟩ => test_link (thn (hb.run pins s1 σ H1 _ I1 q1) fun u s2 ⟨y, H2, I2, r2, q2⟩ =>
    thn (h1 pins s2 σ H2 x y v u _ I2 r1 r2 q2) fun d s3 ⟨z, H3, I3, r3, k, e, q3⟩ => ?_)) hm
  subst e
  cases r3
  refine wpAny_truthy_bool ?_
  cases k with
  | false =>
    obtain ⟨k', e', q'⟩ := q3
    cases e'
    exact ite_ff ⟨H3, I3, q'⟩
  | true =>
    refine ite_tt (test_link (thn (hc.run pins s3 σ H3 _ I3 q3) fun w' s4 ⟨z', H4, I4, r4, q4⟩ => thn (h2 pins s4 σ H4 y z' u w' _ I4 r2 r4 q4) fun d2 s5 ⟨z2, H5, I5, r5, k2, e2, q5⟩ => ?_))
    subst e2
    cases r5
    refine wpAny_truthy_bool ?_
    cases k2 with
    | false =>
      obtain ⟨k', e', q'⟩ := q5
      cases e'
      exact ite_ff ⟨H5, I5, q'⟩
    | true =>
      refine ite_tt (test_last (thn (hd.run pins s5 σ H5 _ I5 q5) fun w2 s6 ⟨z3, H6, I6, r6, q6⟩ => thn (h3 pins s6 σ H6 z' z3 w' w2 _ I6 r4 r6 q6) fun d' s7 ⟨z4, H7, I7, r7, k4, e4, q7⟩ => ?_))
      subst e4
      cases r7
      exact wpAny_truthy_bool ⟨H7, I7, q7⟩
theorem ch3_go {o o' o2 : O2} {σ : L2.St} {H : Hp} {Q : VK} (h : tE X.K G L false (.ch3 o o' o2 x y z u) σ H Q) : tChain3 (rO X.K o) (rO X.K o') (rO X.K o2) (tE X.K G L true x) (tE X.K G L true y) (tE X.K G L true z) (tE X.K G L true u) σ H Q := by
  obtain ⟨O, ρ, oa, d, om, eo, e, q⟩ := h
  simp only [ev, Option.bind_eq_some_iff] at e
  obtain ⟨dx, ex, dy, ey, r, er, t, et, e⟩ := e
  obtain rfl := asBool_some et
  refine ⟨O, ρ, oa, dx, om, eo, ex, fun v H1 s1 r1 => ⟨O, ρ, oa, dy, om.mono s1, eo.mono s1, ey, fun w H2 s2 r2 => ?_⟩⟩
  refine ⟨O, dx, dy, .bool t, false, om.mono (s1.trans s2), r1.mono s2, r2, er, fun v3 H3 s3 r3 _ => ?_⟩
  cases r3
  refine ⟨t, rfl, ?_⟩
  have s13 := (s1.trans s2).trans s3
  cases t with
  | false =>
    cases e
    exact (q.post.mono s13).here (.bl _) nb
  | true =>
    simp only [if_true, Option.bind_eq_some_iff] at e ⊢
    obtain ⟨dz, ez, rr, err, t2, et2, e⟩ := e
    obtain rfl := asBool_some et2
    refine ⟨O, ρ, oa, dz, om.mono s13, eo.mono s13, ez, fun v4 H4 s4 r4 => ?_⟩
    have s14 := s13.trans s4
    refine ⟨O, dy, dz, .bool t2, false, om.mono s14, r2.mono (s3.trans s4), r4, err, fun v5 H5 s5 r5 _ => ?_⟩
    cases r5
    refine ⟨t2, rfl, ?_⟩
    have s15 := s14.trans s5
    cases t2 with
    | false =>
      cases e
      exact (q.post.mono s15).here (.bl _) nb
    | true =>
      simp only [if_true, Option.bind_eq_some_iff] at e ⊢
      obtain ⟨du, eu, e⟩ := e
      refine ⟨O, ρ, oa, du, om.mono s15, eo.mono s15, eu, fun v6 H6 s6 r6 => ?_⟩
      exact ⟨O, dz, du, d, _, om.mono (s15.trans s6), r4.mono (s5.trans s6), r6, e, q.post.mono (s15.trans s6)⟩
theorem e_ch3 (hu : X.A.units + 65 < cLine) {o o' o2 : O2} {k k' k2 : CmpOp} (ho : cop o = some k) (ho' : cop o' = some k') (ho2 : cop o2 = some k2) (ha : PE X a (tE X.K G L true x)) (hb : PE X c (tE X.K G L true y)) (hc : PE X a2 (tE X.K G L true z)) (hd : PE X a3 (tE X.K G L true u)) (hm : isSet a3 = false) :
    PE X (.Compare a [k, k', k2] [c, a2, a3] pos) (tE X.K G L false (.ch3 o o' o2 x y z u)) ∧ PT X (.Compare a [k, k', k2] [c, a2, a3] pos) (tTst X.K G L (.ch3 o o' o2 x y z u)) :=
  ⟨(pe_chain3 (o_cmp hu ho) (o_cmp hu ho') (o_cmp hu ho2) ha hb hc hd (last_marks3 hm)).imp fun _ _ _ h => ch3_go h, (pt_chain3 (o_cmp hu ho) (o_cmp hu ho') (o_cmp hu ho2) ha hb hc hd (last_marks3 hm)).imp fun _ _ _ h => ch3_go (tst_of h)⟩
theorem e_neg (ha : PE X a (tE X.K G L false x)) : PE X (.UnaryOp .USub a pos) (tE X.K G L false (.neg x)) := (pe_un un_neg ha).imp fun σ H Q h => by
  obtain ⟨O, ρ, oa, d, om, eo, e, q⟩ := h
  simp only [ev, Option.bind_eq_some_iff, Option.map_eq_some_iff] at e
  obtain ⟨dx, ex, i, ei, rfl⟩ := e
  obtain rfl := asInt_some ei
  exact ⟨O, ρ, oa, _, om, eo, ex, fun v H1 s1 r1 _ => by cases r1; exact ⟨i, rfl, (q.post.mono s1).here (.int _) ni⟩⟩
theorem e_not (ha : PE X a (tE X.K G L false x)) : PE X (.UnaryOp .Not a pos) (tE X.K G L false (.not x)) := (pe_not ha).imp fun σ H Q h => by
  obtain ⟨O, ρ, oa, d, om, eo, e, q⟩ := h
  simp only [ev, Option.bind_eq_some_iff, Option.map_eq_some_iff] at e
  obtain ⟨dx, ex, i, ei, rfl⟩ := e
  obtain rfl := asBool_some ei
  exact ⟨O, ρ, oa, _, om, eo, ex, fun v H1 s1 r1 _ => by cases r1; exact ⟨i, rfl, (q.post.mono s1).here (.bl _) nb⟩⟩
theorem t_not (ha : PT X a (tTst X.K G L x)) : PT X (.UnaryOp .Not a pos) (tTst X.K G L (.not x)) := (pt_not ha).imp fun σ H Q h => by
  obtain ⟨O, ρ, oa, t, om, eo, e, q⟩ := h
  simp only [ev, Option.bind_eq_some_iff, Option.map_eq_some_iff] at e
  obtain ⟨d, ⟨dx, ex, i, ei, rfl⟩, et⟩ := e
  cases et
  exact ⟨O, ρ, oa, i, om, eo, Option.bind_eq_some_iff.mpr ⟨dx, ex, ei⟩, q⟩
theorem e_ife (hc : PT X a (tTst X.K G L x)) (ha : PE X c (tE X.K G L false y)) (hb : PE X a2 (tE X.K G L false z)) : PE X (.IfExp a c a2 pos) (tE X.K G L false (.ife x y z)) := (pe_ifExp hc ha hb).imp fun σ H Q h => by
  obtain ⟨O, ρ, oa, d, om, eo, e, q⟩ := h
  simp only [ev, Option.bind_eq_some_iff] at e
  obtain ⟨dx, ex, t, et, e⟩ := e
  refine ⟨O, ρ, oa, t, om, eo, Option.bind_eq_some_iff.mpr ⟨dx, ex, et⟩, fun H1 s1 => ?_⟩
  have down : ∀ {fr fr' : Bool} {Q : VK}, (fr = true → fr' = true) → Post X.K O H1 fr d Q → Post X.K O H1 fr' d Q := fun i h v H' s r f => h v H' s r fun z => f (i z)
  have q' : Post X.K O H1 (frE G.Fr y && frE G.Fr z) d Q := q.post.mono s1
  cases t with
  | true => exact ⟨O, ρ, oa, d, om.mono s1, eo.mono s1, e, down (fun z => (Bool.and_eq_true _ _ ▸ z).1) q'⟩
  | false => exact ⟨O, ρ, oa, d, om.mono s1, eo.mono s1, e, down (fun z => (Bool.and_eq_true _ _ ▸ z).2) q'⟩
end
end Pv

set_option Elab.async false
set_option linter.all false
set_option maxRecDepth 100000
set_option maxHeartbeats 1000000
/-! Lists of expressions, calls, subscripts, and/or. -/
namespace Pv
open PySem PySem.Spec PyProof.Rows L2

section
variable {X : Cx} {G : Cfg} {L : Nat} {b : Bool} {pos p : Pos}
variable {a c a2 a3 : Expr} {x y z u : Xp} {es : List Expr} {xs : Xps}
theorem RBs.nil {K : PySem.W.Frag} {O : Addr → Prop} {H : Hp} : RBs K O H b [] [] := by
  cases b with
  | true => exact .nil
  | false => exact .nil
theorem RBs.cons {K : PySem.W.Frag} {O : Addr → Prop} {H : Hp} {v : V} {vs : List V} {d : D} {ds : List D} (h : RB K O H b v d) (r : RBs K O H b vs ds) : RBs K O H b (v :: vs) (d :: ds) := by
  cases b with
  | true => exact .cons h r
  | false => exact .cons h r
/-- what an argument is to satisfy behind it -/
theorem post_rb {K : PySem.W.Frag} {O : Addr → Prop} {H : Hp} {fr : Bool} {d : D} {Q : VK} (h : ∀ v H', Same H H' → RB K O H' b v d → Q v H') : PostB K O H b fr d Q := by
  cases b with
  | true => exact h
  | false => exact fun v H' s r _ => h v H' s r
theorem a_nil : PA X [] (tAs X.K G L b .nil) := pa_nil.imp fun σ H Q h => by
  obtain ⟨O, ρ, oa, ds, om, eo, e, q⟩ := h
  cases e
  exact q [] H (Same.refl H) .nil
theorem a_cons (ha : PE X a (tE X.K G L b x)) (hr : PA X es (tAs X.K G L b xs)) (hs : isStar a = false) : PA X (a :: es) (tAs X.K G L b (.cons x xs)) := (pa_cons ha hr (star_cons hs)).imp fun σ H Q h => by
  obtain ⟨O, ρ, oa, ds, om, eo, e, q⟩ := h
  simp only [evs, Option.bind_eq_some_iff, Option.map_eq_some_iff] at e
  obtain ⟨d, ed, ds', eds, rfl⟩ := e
  refine ⟨O, ρ, oa, d, om, eo, ed, post_rb fun v H1 s1 r1 => ?_⟩
  exact ⟨O, ρ, oa, ds', om.mono s1, eo.mono s1, eds, fun vs H2 s2 r2 => q (v :: vs) H2 (s1.trans s2) (.cons (r1.mono s2) r2)⟩
theorem line_eq : (line : Nat) = sizeLine := rfl
theorem e_tup {k : Nat} (h : PA X es (tAs X.K G L false xs)) : PE X (.Tuple es k pos) (tE X.K G L false (.tup xs)) := (pe_tup h).imp fun σ H Q h => by
  obtain ⟨O, ρ, oa, d, om, eo, e, q⟩ := h
  simp only [ev, Option.bind_eq_some_iff] at e
  obtain ⟨ds, e1, e⟩ := e
  split at e
  · rename_i hl
    cases e
    refine ⟨O, ρ, oa, ds, om, eo, e1, fun vs H1 s1 (r1 : Rps X.K (hid O H1) vs ds) => ⟨by rw [r1.length]; exact hl, fun p np => (q.post.mono s1).newT (om.mono s1) np r1⟩⟩
  · cases e
theorem e_lst (h : PA X es (tAs X.K G L false xs)) : PE X (.List es pos) (tE X.K G L false (.lst xs)) := (pe_lst h).imp fun σ H Q h => by
  obtain ⟨O, ρ, oa, d, om, eo, e, q⟩ := h
  simp only [ev, Option.bind_eq_some_iff] at e
  obtain ⟨ds, e1, e⟩ := e
  split at e
  · rename_i hl
    cases e
    refine ⟨O, ρ, oa, ds, om, eo, e1, fun vs H1 s1 (r1 : Rps X.K (hid O H1) vs ds) => ⟨by rw [r1.length]; exact hl, fun p np => (q.post.mono s1).new (om.mono s1) np r1⟩⟩
  · cases e
theorem ixN_len {n m : Nat} (h : n = m) (i : Int) : ixN n i = ixN m i := by rw [h]
theorem at_rps {K : PySem.W.Frag} {F : Hp} {vs : List V} {ds : List D} {i : Int} {d : D} (h : Rps K F vs ds) (e : atI ds i = some d) : ∃ v, atI vs i = some v ∧ Rp K F v d := by
  unfold atI at e ⊢
  rw [h.length]
  cases q : ixN ds.length i with
  | none => rw [q] at e; cases e
  | some j =>
    rw [q] at e
    exact h.get e
theorem at_ints {ns : List Int} {i : Int} {d : D} (e : atI (ns.map PyData.int) i = some d) : ∃ n, atI (ns.map V.int) i = some (.int n) ∧ d = .int n := by
  unfold atI at e ⊢
  rw [List.length_map] at e ⊢
  cases q : ixN ns.length i with
  | none => rw [q] at e; cases e
  | some j =>
    rw [q] at e
    have e' : (ns.map PyData.int)[j]? = some d := e
    rw [List.getElem?_map] at e'
    cases q2 : ns[j]? with
    | none => rw [q2] at e'; cases e'
    | some n =>
      rw [q2] at e'
      cases e'
      refine ⟨n, ?_, rfl⟩
      show (ns.map V.int)[j]? = _
      rw [List.getElem?_map, q2]
      rfl
theorem e_idx (ha : PE X a (tE X.K G L true x)) (hb : PE X c (tE X.K G L false y)) (hs : isSlice c = false) : PE X (.Subscript a c pos) (tE X.K G L false (.idx x y)) := (pe_ix (ix_list.or ix_tup) ha hb (plain_ix hs)).imp fun σ H Q h => by
  obtain ⟨O, ρ, oa, d, om, eo, e, q⟩ := h
  simp only [ev, Option.bind_eq_some_iff] at e
  obtain ⟨dx, ex, k, ek, ys, ey, j, ej, e⟩ := e
  obtain rfl := asInt_some ej
  refine ⟨O, ρ, oa, dx, om, eo, ex, fun v H1 s1 r1 => ⟨O, ρ, oa, _, om.mono s1, eo.mono s1, ek, fun w H2 s2 r2 _ => ?_⟩⟩
  cases r2
  have r1' := r1.mono s2
  have qq := q.post.mono (s1.trans s2)
  have done : ∀ v', Rp X.K (hid O H2) v' d → Q v' H2 := fun v' r => qq v' H2 (Same.refl H2) r fun z => by cases z
  cases dx <;> first
    | (cases ey; done)
    | skip
  · cases ey
    obtain ⟨l, vs, rfl, h1, r⟩ := r1'.lst
    obtain ⟨v', e1, r'⟩ := at_rps r e
    exact .inl ⟨l, vs, j, v', rfl, rfl, SqL.of h1, e1, done v' r'⟩
  · cases ey
    obtain ⟨l, vs, rfl, h1, r⟩ := r1'.tup
    obtain ⟨v', e1, r'⟩ := at_rps r e
    exact .inr ⟨l, vs, j, v', rfl, rfl, SqT.of h1, e1, done v' r'⟩
  · rename_i kvs
    have : ∃ zs, kvs = [(.none, .list zs)] ∧ zs = ys := by
      unfold seqIx at ey
      split at ey
      · rename_i hh; cases hh
      · rename_i hh; cases hh
      · rename_i zs hh
        cases ey
        exact ⟨_, PyData.dict.inj hh, rfl⟩
      · cases ey
    obtain ⟨zs, rfl, rfl⟩ := this
    obtain ⟨l, ns, rfl, rfl, hs⟩ := r1'.scr
    obtain ⟨n, e1, rfl⟩ := at_ints e
    exact .inl ⟨l, _, j, _, rfl, rfl, hs, e1, done _ (.int n)⟩
/-- the parts of a slice -/
def tPt (K : PySem.W.Frag) (G : Cfg) (L : Nat) (o : Option Xp) : TO := fun σ H Q => ∃ O ρ oa l, OM O H ∧ EO K L O H σ ρ oa ∧ evPart G o ρ = some l ∧ ∀ H', Same H H' → Q l H'
theorem PO.imp {o : Option Expr} {t t' : TO} (h : PO X o t) (i : ∀ σ H Q, t' σ H Q → t σ H Q) : PO X o t' := ⟨fun pins s σ H Q I hw => h.run pins s σ H Q I (i _ _ _ hw)⟩
theorem p_none : PO X none (tPt X.K G L none) := PO.imp po_none fun σ H Q h => by
  obtain ⟨O, ρ, oa, l, om, eo, e, q⟩ := h
  cases e
  exact q H (Same.refl H)
theorem p_some (h : PE X a (tE X.K G L false x)) : PO X (some a) (tPt X.K G L (some x)) := PO.imp (po_some h) fun σ H Q h => by
  obtain ⟨O, ρ, oa, l, om, eo, e, q⟩ := h
  simp only [evPart, Option.bind_eq_some_iff, Option.map_eq_some_iff] at e
  obtain ⟨d, ed, i, ei, rfl⟩ := e
  obtain rfl := asInt_some ei
  exact ⟨O, ρ, oa, _, om, eo, ed, fun v H1 s1 r1 _ => by cases r1; exact ⟨i, rfl, q H1 s1⟩⟩
theorem cut_rps {K : PySem.W.Frag} {F : Hp} {vs : List V} {ds : List D} (h : Rps K F vs ds) (lo hi : Option Int) : Rps K F (cutV vs lo hi) (cutD ds lo hi) := by
  unfold cutV cutD
  rw [h.length]
  exact (h.drop _).take _
theorem e_cut {lo hi : Option Expr} {l u : Option Xp} {p2 : Pos} (ha : PE X a (tE X.K G L true x)) (hl : PO X lo (tPt X.K G L l)) (hu : PO X hi (tPt X.K G L u)) : PE X (.Subscript a (.Slice lo hi none p2) pos) (tE X.K G L false (.cut x l u)) :=
  (pe_slice sl_list ha hl hu).imp fun σ H Q h => by
  obtain ⟨O, ρ, oa, d, om, eo, e, q⟩ := h
  simp only [ev, Option.bind_eq_some_iff] at e
  obtain ⟨dx, ex, i, ei, j, ej, e⟩ := e
  split at e
  · rename_i ds
    cases e
    refine ⟨O, ρ, oa, _, om, eo, ex, fun v H1 s1 r1 => ⟨O, ρ, oa, _, om.mono s1, eo.mono s1, ei, fun H2 s2 => ⟨O, ρ, oa, _, om.mono (s1.trans s2), eo.mono (s1.trans s2), ej, fun H3 s3 => ?_⟩⟩⟩
    have s13 := (s1.trans s2).trans s3
    obtain ⟨l, vs, rfl, h1, r⟩ := (r1.mono (s2.trans s3)).lst
    exact ⟨l, vs, rfl, SqL.of h1, fun p np => (q.post.mono s13).new (om.mono s13) np (cut_rps r _ _)⟩
  · cases e
theorem e_rev {k : Nat} {p1 p2 p3 : Pos} (ha : PE X a (tE X.K G L true x)) : PE X (.Subscript a (.Slice none none (some (.UnaryOp .USub (.Constant (.int 1) k p1) p2)) p3) pos) (tE X.K G L false (.rev x)) := (pe_revL ha).imp fun σ H Q h => by
  obtain ⟨O, ρ, oa, d, om, eo, e, q⟩ := h
  simp only [ev, Option.bind_eq_some_iff] at e
  obtain ⟨dx, ex, e⟩ := e
  split at e
  · rename_i ds
    cases e
    refine ⟨O, ρ, oa, _, om, eo, ex, fun v H1 s1 r1 => ?_⟩
    obtain ⟨l, vs, rfl, h1, r⟩ := r1.lst
    exact ⟨l, vs, rfl, SqL.of h1, fun p np => (q.post.mono s1).new (om.mono s1) np r.reverse⟩
  · cases e

/-! ### built-in functions -/
def biN : Bi → Str
  | .len => "len" | .abs => "abs" | .int => "int" | .min2 => "min" | .max2 => "max" | .min1 => "min" | .max1 => "max" | .list => "list" | .all => "all" | .any => "any" | .sum => "sum" | .sumL => "sum" | .sorted => "sorted" | .sortedL => "sorted" | .gcd => "gcd"
theorem fr_bi {f : Bi} {Fr : Str → Bool} : frE Fr (.bi f xs) = true → frB f = true := by
  cases f <;> first | (intro _; rfl) | (intro z; cases z)
theorem bi_go {f : Bi} {σ : L2.St} {H : Hp} {Q : VK} (h : tE X.K G L false (.bi f xs) σ H Q) : tCB (rB X.K f) (tAs X.K G L (bib f) xs) σ H Q := by
  obtain ⟨O, ρ, oa, d, om, eo, e, q⟩ := h
  simp only [ev, Option.bind_eq_some_iff] at e
  obtain ⟨ds, e1, e⟩ := e
  exact ⟨O, ρ, oa, ds, om, eo, e1, fun vs H1 s1 r1 => ⟨O, ds, d, _, fr_bi, om.mono s1, r1, e, q.post.mono s1⟩⟩
theorem e_bi (hc : X.calm = true) (hu : X.A.units + 65 < cLine) {f : Bi} {n : Str} (hn : n = biN f) (hg : Gl X n) (hm : f ≠ .gcd → X.mg n = none) (hm2 : f = .gcd → X.mg n = some (.builtin "math.gcd")) (ha : PA X (a :: es) (tAs X.K G L (bib f) xs)) (hs : isStar a = false) (hss : (es.all fun e => !isStar e) = true) :
    PE X (.Call (.Name n p) (a :: es) [] pos) (tE X.K G L false (.bi f xs)) := by
  subst hn
  refine L2.PE.imp (t := tCB (rB X.K f) (tAs X.K G L (bib f) xs)) ?_ fun _ _ _ h => bi_go h
  have h1 := fun (env : Env) => star_cons (es := es) (env := env) hs
  have h2 := fun (env : Env) => star_none pos env es hss
  cases f
  · exact pe_callB b_len hg (hm (by decide)) boot_len ha (by decide) (by decide) (h1 _) (h2 _)
  · exact pe_callB b_abs hg (hm (by decide)) boot_abs ha (by decide) (by decide) (h1 _) (h2 _)
  · exact pe_callTy b_int hg (hm (by decide)) boot_int ha (by decide) (by decide) (h1 _) (h2 _)
  · exact pe_callB (b_min2 hc) hg (hm (by decide)) boot_min ha (by decide) (by decide) (h1 _) (h2 _)
  · exact pe_callB (b_max2 hc) hg (hm (by decide)) boot_max ha (by decide) (by decide) (h1 _) (h2 _)
  · exact pe_callB (b_min1 hc) hg (hm (by decide)) boot_min ha (by decide) (by decide) (h1 _) (h2 _)
  · exact pe_callB (b_max1 hc) hg (hm (by decide)) boot_max ha (by decide) (by decide) (h1 _) (h2 _)
  · exact pe_callTy b_list hg (hm (by decide)) boot_list ha (by decide) (by decide) (h1 _) (h2 _)
  · exact pe_callB (b_all hc) hg (hm (by decide)) boot_all ha (by decide) (by decide) (h1 _) (h2 _)
  · exact pe_callB (b_any hc) hg (hm (by decide)) boot_any ha (by decide) (by decide) (h1 _) (h2 _)
  · exact pe_callB (b_sum hc) hg (hm (by decide)) boot_sum ha (by decide) (by decide) (h1 _) (h2 _)
  · exact pe_callB (b_sumL hc) hg (hm (by decide)) boot_sum ha (by decide) (by decide) (h1 _) (h2 _)
  · exact pe_callB b_sorted hg (hm (by decide)) boot_sorted ha (by decide) (by decide) (h1 _) (h2 _)
  · exact pe_callB (b_sortedL hu) hg (hm (by decide)) boot_sorted ha (by decide) (by decide) (h1 _) (h2 _)
  · exact pe_callBfun b_gcd hg (hm2 rfl) ha (by decide) (h1 _) (h2 _)

/-! ### calls of defs -/
def spD (K : PySem.W.Frag) (C : List D → Option D) (fr : Bool) (n : Nat) : Sp := fun vs H Q _ => vs.length = n ∧ ∃ O ds d, OM O H ∧ Rps K (hid O H) vs ds ∧ C ds = some d ∧ Post K O H fr d Q
def FnC (G : Cfg) (X : Cx) (x : Str) : Prop := ∃ k f fd ps, FnOk X.prog X.w X.K X.mg X.base CX0 k f fd ps (spD X.K (G.C x) (G.Fr x) ps.length) ∧ Room k X.A ∧ X.mg x = some (.ref f) ∧ PySem.W.keepIn X.K (.ref f) = true ∧ Binds X.K fd ps [] ∧ (∀ ds d, G.C x ds = some d → ds.length = ps.length)
theorem e_call {n : Str} (F : FnC G X n) (hg : Gl X n) (hd : (n == ("__debug__" : Str)) = false) (ha : PA X (a :: es) (tAs X.K G L false xs)) (hs : isStar a = false) (hss : (es.all fun e => !isStar e) = true) :
    PE X (.Call (.Name n p) (a :: es) [] pos) (tE X.K G L false (.call n xs)) := by
  obtain ⟨k, f, fd, ps, F, hr, hm, hk, hb, hl⟩ := F
  refine (pe_call F hr hg hm hk hb .nil pass0 ha hd (star_cons hs) (star_none pos _ es hss)).imp fun σ H Q h => ?_
  obtain ⟨O, ρ, oa, d, om, eo, e, q⟩ := h
  simp only [ev, Option.bind_eq_some_iff] at e
  obtain ⟨ds, e1, e⟩ := e
  refine ⟨O, ρ, oa, ds, om, eo, e1, fun vs H1 s1 (r1 : Rps X.K (hid O H1) vs ds) => ?_⟩
  show spD X.K (G.C n) (G.Fr n) ps.length (vs ++ []) H1 Q L2.E0
  rw [List.append_nil]
  exact ⟨by rw [r1.length, hl _ _ e], O, ds, d, om.mono s1, r1, e, q.post.mono s1⟩
/-- without those -/
def less (O : Addr → Prop) (vs : List V) : Addr → Prop := fun a => O a ∧ V.ref a ∉ vs
theorem b_less {K : PySem.W.Frag} {O : Addr → Prop} {H : Hp} {ws : List V} : ∀ {vs : List V} {ds : List D}, BRps K O H vs ds → (∀ v ∈ vs, v ∈ ws) → Rps K (hid (less O ws) H) vs ds
  | _, _, .nil, _ => .nil
  | _, _, .cons h r, m => by
    have sub : Same (hid O H) (hid (less O ws) H) := hid_less fun a ha => ha.1
    refine .cons ?_ (b_less r fun v hv => m v (List.mem_cons_of_mem _ hv))
    rcases h with h | ⟨a, vs', ds', rfl, rfl, ho, e, r'⟩
    · exact h.mono sub
    · exact .lst (hid_iff.mpr ⟨fun z => z.2 (m _ (List.mem_cons_self ..)), e⟩) (r'.mono sub)
theorem post_less {K : PySem.W.Frag} {O : Addr → Prop} {H : Hp} {ws : List V} {fr fr' : Bool} {d : D} {Q : VK} (om : OM O H) (h : Post K O H fr' d Q) (hf : flatRes fr d = true) (hfr : fr' = true → fr = true) : Post K (less O ws) H fr d Q := by
  intro v H' s r f
  have om' := om.mono s
  cases d with
  | list ds =>
    have hf' : fr = true ∧ flatDs ds = true := by simpa [flatRes] using hf
    obtain ⟨p, vs, e1, e2, e3, e4⟩ := f hf'.1 ds rfl
    subst e1
    have omp : OM (fun a => O a ∨ a = p) H' := fun a ha => ha.elim (om' a) fun z => ⟨HO.lst vs, z ▸ e3, trivial⟩
    have nO : ¬ O p := fun z => by
      obtain ⟨o, e, _⟩ := om p z
      rw [e2] at e; cases e
    refine h _ H' s (.lst (hid_iff.mpr ⟨nO, e3⟩) (Rps.flat om' e4 hf'.2)) fun _ ds' e => ?_
    cases e
    exact ⟨p, vs, rfl, e2, e3, Rps.flat omp e4 hf'.2⟩
  | none => exact h v H' s (r.flat om' (by simpa [flatRes] using hf)) fun _ ds' e => by cases e
  | bool _ => exact h v H' s (r.flat om' (by simpa [flatRes] using hf)) fun _ ds' e => by cases e
  | int _ => exact h v H' s (r.flat om' (by simpa [flatRes] using hf)) fun _ ds' e => by cases e
  | str _ => exact h v H' s (r.flat om' (by simpa [flatRes] using hf)) fun _ ds' e => by cases e
  | tuple _ => exact h v H' s (r.flat om' (by simpa [flatRes] using hf)) fun _ ds' e => by cases e
  | dict _ => simp [flatRes, flatD] at hf
theorem e_callB {n : Str} (F : FnC G X n) (hg : Gl X n) (hd : (n == ("__debug__" : Str)) = false) (ha : PA X (a :: es) (tAs X.K G L true xs)) (hs : isStar a = false) (hss : (es.all fun e => !isStar e) = true) :
    PE X (.Call (.Name n p) (a :: es) [] pos) (tE X.K G L false (.callB n xs)) := by
  obtain ⟨k, f, fd, ps, F, hr, hm, hk, hb, hl⟩ := F
  refine (pe_call F hr hg hm hk hb .nil pass0 ha hd (star_cons hs) (star_none pos _ es hss)).imp fun σ H Q h => ?_
  obtain ⟨O, ρ, oa, d, om, eo, e, q⟩ := h
  simp only [ev, Option.bind_eq_some_iff] at e
  obtain ⟨ds, e1, d', e2, e⟩ := e
  split at e
  · rename_i hf
    cases e
    refine ⟨O, ρ, oa, ds, om, eo, e1, fun vs H1 s1 (r1 : BRps X.K O H1 vs ds) => ?_⟩
    show spD X.K (G.C n) (G.Fr n) ps.length (vs ++ []) H1 Q L2.E0
    rw [List.append_nil]
    refine ⟨by rw [r1.length, hl _ _ e2], less O vs, ds, d, (om.mono s1).sub fun a ha => ha.1, b_less r1 fun _ z => z, e2, ?_⟩
    exact post_less (om.mono s1) (q.post.mono s1) hf fun z => z
  · cases e
theorem e_call0 {n : Str} (F : FnC G X n) (hg : Gl X n) (hd : (n == ("__debug__" : Str)) = false) : PE X (.Call (.Name n p) [] [] pos) (tE X.K G L false (.call n .nil)) := by
  obtain ⟨k, f, fd, ps, F, hr, hm, hk, hb, hl⟩ := F
  refine (pe_call0 F hr hg hm hk hb .nil pass0 hd).imp fun σ H Q h => ?_
  obtain ⟨O, ρ, oa, d, om, eo, e, q⟩ := h
  simp only [ev, Option.bind_eq_some_iff] at e
  obtain ⟨ds, e1, e⟩ := e
  cases e1
  exact ⟨hl _ _ e, O, [], d, om, .nil, e, q.post⟩

/-! ### and, or -/
def tBl (K : PySem.W.Frag) (G : Cfg) (L : Nat) (k : Bool) (es : Xps) : TE := fun σ H Q => ∃ O ρ oa d, OM O H ∧ EO K L O H σ ρ oa ∧ evBool G k es ρ = some d ∧ Post K O H false d Q
def tBlT (K : PySem.W.Frag) (G : Cfg) (L : Nat) (k : Bool) (es : Xps) : TT := fun σ H Q => ∃ O ρ oa t, OM O H ∧ EO K L O H σ ρ oa ∧ (evBool G k es ρ).bind asBool = some t ∧ ∀ H', Same H H' → Q t H'
def bO (k : Bool) : BoolOp := if k then .And else .Or
theorem bl_one {k : Bool} (h : PE X a (tE X.K G L false x)) : PE X (.BoolOp (bO k) [a] pos) (tBl X.K G L k (.cons x .nil)) := (pe_one h).imp fun σ H Q q => by
  obtain ⟨O, ρ, oa, d, om, eo, e, q⟩ := q
  exact ⟨O, ρ, oa, d, om, eo, e, q.up⟩
theorem bl_cons {k : Bool} {x2 : Xp} (h : PE X a (tE X.K G L false x)) (hr : PE X (.BoolOp (bO k) (c :: es) pos) (tBl X.K G L k (.cons x2 xs))) : PE X (.BoolOp (bO k) (a :: c :: es) pos) (tBl X.K G L k (.cons x (.cons x2 xs))) := by
  have go : ∀ σ H Q, tBl X.K G L k (.cons x (.cons x2 xs)) σ H Q → ∀ (R : Bool → Hp → Prop), (∀ t H1, (t = k → tBl X.K G L k (.cons x2 xs) σ H1 Q) → (t ≠ k → Q (.bl t) H1) → R t H1) → tE X.K G L false x σ H (fun v H1 => ∃ t, v = .bl t ∧ R t H1) := by
    intro σ H Q h R hR
    obtain ⟨O, ρ, oa, d, om, eo, e, q⟩ := h
    simp only [evBool, Option.bind_eq_some_iff] at e
    obtain ⟨dx, ex, t, et, e⟩ := e
    obtain rfl := asBool_some et
    refine ⟨O, ρ, oa, _, om, eo, ex, fun v H1 s1 r1 _ => ?_⟩
    cases r1
    refine ⟨t, rfl, hR t H1 (fun z => ?_) fun z => ?_⟩
    · rw [if_pos z] at e
      exact ⟨O, ρ, oa, d, om.mono s1, eo.mono s1, e, q.mono s1⟩
    · rw [if_neg z] at e
      cases e
      exact (q.mono s1).here (.bl _) nb
  cases k with
  | true =>
    refine (pe_and h hr).imp fun σ H Q q => go σ H Q q _ fun t H1 h1 h2 => ?_
    cases t with
    | true => exact h1 rfl
    | false => exact h2 (by decide)
  | false =>
    refine (pe_or h hr).imp fun σ H Q q => go σ H Q q _ fun t H1 h1 h2 => ?_
    cases t with
    | false => exact h1 rfl
    | true => exact h2 (by decide)
theorem blT_one {k : Bool} (h : PT X a (tTst X.K G L x)) : PW X (.BoolOp (bO k) [a] pos) (tBlT X.K G L k (.cons x .nil)) := by
  cases k with
  | true => exact (pw_and1 h).imp fun _ _ _ q => q
  | false => exact (pw_or1 h).imp fun _ _ _ q => q
theorem blT_cons {k : Bool} {x2 : Xp} (h : PT X a (tTst X.K G L x)) (hr : PW X (.BoolOp (bO k) (c :: es) pos) (tBlT X.K G L k (.cons x2 xs))) : PW X (.BoolOp (bO k) (a :: c :: es) pos) (tBlT X.K G L k (.cons x (.cons x2 xs))) := by
  have go : ∀ σ H Q, tBlT X.K G L k (.cons x (.cons x2 xs)) σ H Q → ∀ (R : Bool → Hp → Prop), (∀ t H1, (t = k → tBlT X.K G L k (.cons x2 xs) σ H1 Q) → (t ≠ k → Q t H1) → R t H1) → tTst X.K G L x σ H R := by
    intro σ H Q h R hR
    obtain ⟨O, ρ, oa, t0, om, eo, e, q⟩ := h
    simp only [evBool, Option.bind_eq_some_iff] at e
    obtain ⟨d, ⟨dx, ex, t, et, e⟩, e2⟩ := e
    refine ⟨O, ρ, oa, t, om, eo, Option.bind_eq_some_iff.mpr ⟨dx, ex, et⟩, fun H1 s1 => ?_⟩
    refine hR t H1 (fun z => ?_) fun z => ?_
    · rw [if_pos z] at e
      exact ⟨O, ρ, oa, t0, om.mono s1, eo.mono s1, Option.bind_eq_some_iff.mpr ⟨d, e, e2⟩, fun H2 s2 => q H2 (s1.trans s2)⟩
    · rw [if_neg z] at e
      cases e
      cases e2
      exact q H1 s1
  cases k with
  | true =>
    refine (pw_and h hr).imp fun σ H Q q => go σ H Q q _ fun t H1 h1 h2 => ?_
    cases t with
    | true => exact h1 rfl
    | false => exact h2 (by decide)
  | false =>
    refine (pw_or h hr).imp fun σ H Q q => go σ H Q q _ fun t H1 h1 h2 => ?_
    cases t with
    | false => exact h1 rfl
    | true => exact h2 (by decide)
theorem e_bool {k : Bool} (h : PE X (.BoolOp (bO k) es pos) (tBl X.K G L k xs)) : PE X (.BoolOp (bO k) es pos) (tE X.K G L false (.bool k xs)) := h.imp fun _ _ _ q => q
theorem t_bool {k : Bool} (h : PW X (.BoolOp (bO k) es pos) (tBlT X.K G L k xs)) : PT X (.BoolOp (bO k) es pos) (tTst X.K G L (.bool k xs)) := h.pt.imp fun _ _ _ q => q

/-! ### list(range(..)) -/
theorem rg_ints (lo : Int) (n : Nat) (hi : Int) (h : (hi - lo).toNat = n) {K : PySem.W.Frag} {F : Hp} : Rps K F (rgV lo hi) (rngD lo n) := by
  subst h
  have : ∀ l : List Nat, Rps K F (l.map fun i => V.int (lo + (i : Nat))) (l.map fun k => PyData.int (lo + (k : Nat))) := fun l => by
    induction l with
    | nil => exact .nil
    | cons a l ih => exact .cons (.int _) ih
  exact this _
theorem rngOk_iff {i : Int} : rngOk i = true ↔ -(2 ^ 62) ≤ i ∧ i < 2 ^ 62 := by
  unfold rngOk
  rw [Bool.and_eq_true, decide_eq_true_eq, decide_eq_true_eq]
theorem e_lrng1 {p2 pos2 : Pos} (hc : X.calm = true) (hg : Gl X "list") (hm : X.mg "list" = none) (hg2 : Gl X "range") (hm2 : X.mg "range" = none) (ha : PE X a (tE X.K G L false x)) (hs : isStar a = false) :
    PE X (.Call (.Name "list" p) [.Call (.Name "range" p2) [a] [] pos2] [] pos) (tE X.K G L false (.lrng (.cons x .nil))) :=
  (pe_listRg hc hg hm (prg_1 hg2 hm2 ha (star_cons hs)) rfl).imp fun σ H Q h => by
  obtain ⟨O, ρ, oa, d, om, eo, e, q⟩ := h
  simp only [ev, evs, Option.bind_eq_some_iff, Option.map_eq_some_iff, Option.some.injEq] at e
  obtain ⟨ds, ⟨dx, ex, ds', rfl, rfl⟩, e⟩ := e
  split at e
  · rename_i n hn
    cases hn
    split at e
    · rename_i hb
      cases e
      rw [Bool.and_eq_true, decide_eq_true_eq, rngOk_iff] at hb
      refine ⟨O, ρ, oa, _, om, eo, ex, fun v H1 s1 r1 _ => ?_⟩
      cases r1
      refine ⟨n, rfl, ⟨by decide, by decide, hb.1.1, hb.1.2, by simpa using hb.2⟩, fun p np => (q.post.mono s1).new (om.mono s1) np (rg_ints 0 _ n (by simp))⟩
    · cases e
  · rename_i hn; cases hn
  · cases e
theorem e_lrng2 {p2 pos2 : Pos} (hc : X.calm = true) (hg : Gl X "list") (hm : X.mg "list" = none) (hg2 : Gl X "range") (hm2 : X.mg "range" = none) (ha : PE X a (tE X.K G L false x)) (hb : PE X c (tE X.K G L false y)) (hs : isStar a = false) (hs2 : isStar c = false) :
    PE X (.Call (.Name "list" p) [.Call (.Name "range" p2) [a, c] [] pos2] [] pos) (tE X.K G L false (.lrng (.cons x (.cons y .nil)))) :=
  (pe_listRg hc hg hm (prg_2 hg2 hm2 ha hb (star_cons hs) (star_cons hs2) (star_none _ _ [c] (by simp [hs2]))) rfl).imp fun σ H Q h => by
  obtain ⟨O, ρ, oa, d, om, eo, e, q⟩ := h
  simp only [ev, evs, Option.bind_eq_some_iff, Option.map_eq_some_iff, Option.some.injEq] at e
  obtain ⟨ds, ⟨dx, ex, ds', ⟨dy, ey, ds2, rfl, rfl⟩, rfl⟩, e⟩ := e
  split at e
  · rename_i hn; cases hn
  · rename_i i n hn
    cases hn
    split at e
    · rename_i hb
      cases e
      rw [Bool.and_eq_true, Bool.and_eq_true, decide_eq_true_eq, rngOk_iff, rngOk_iff] at hb
      refine ⟨O, ρ, oa, _, om, eo, ex, fun v H1 s1 r1 _ => ⟨O, ρ, oa, _, om.mono s1, eo.mono s1, ey, fun w H2 s2 r2 _ => ?_⟩⟩
      cases r1
      cases r2
      have s12 := s1.trans s2
      exact ⟨i, n, rfl, rfl, ⟨hb.1.1.1, hb.1.1.2, hb.1.2.1, hb.1.2.2, hb.2⟩, fun p np => (q.post.mono s12).new (om.mono s12) np (rg_ints i _ n rfl)⟩
    · cases e
  · cases e
end
end Pv

set_option Elab.async false
set_option linter.all false
set_option maxRecDepth 100000
set_option maxHeartbeats 1000000
/-! Targets, sources, comprehensions. -/
namespace Pv
open PySem PySem.Spec PyProof.Rows L2

/-! ### targets -/
mutual
def slots : Pat → List Nat
  | .nm i => [i]
  | .tp ps => slotss ps
def slotss : Pats → List Nat
  | .nil => []
  | .cons p ps => slots p ++ slotss ps
end
def plen : Pats → Nat
  | .nil => 0
  | .cons _ ps => plen ps + 1
def tP (K : PySem.W.Frag) (L : Nat) (p : Pat) : TG := fun v σ H Q => ∃ O ρ oa d ρ', OM O H ∧ EO K L O H σ ρ oa ∧ Rp K (hid O H) v d ∧ bindPat p d ρ = some ρ' ∧
  ∀ σ' oa', EO K L O H σ' ρ' oa' → (∀ i a, a ∈ oa' i → a ∈ oa i) → Diff (slots p) σ σ' → Q σ' H
def tPs (K : PySem.W.Frag) (L : Nat) (p : Pats) : TGs := fun vs σ H Q => ∃ O ρ oa ds ρ', OM O H ∧ EO K L O H σ ρ oa ∧ Rps K (hid O H) vs ds ∧ bindPats p ds ρ = some ρ' ∧
  ∀ σ' oa', EO K L O H σ' ρ' oa' → (∀ i a, a ∈ oa' i → a ∈ oa i) → Diff (slotss p) σ σ' → Q σ' H
theorem binds_len : ∀ {ps : Pats} {ds : List D} {ρ ρ' : En}, bindPats ps ds ρ = some ρ' → ds.length = plen ps
  | .nil, [], _, _, _ => rfl
  | .nil, _ :: _, _, _, h => by simp [bindPats] at h
  | .cons _ _, [], _, _, h => by simp [bindPats] at h
  | .cons p ps, d :: ds, ρ, ρ', h => by
    simp only [bindPats, Option.bind_eq_some_iff] at h
    obtain ⟨ρ1, _, h2⟩ := h
    rw [List.length_cons, binds_len h2]
    rfl
section
variable {X : Cx} {G : Cfg} {L : Nat} {pos : Pos}
theorem g_nm {i : Nat} {x : Str} (hL : X.N.length = L) (hN : X.N.Nodup) (hi : X.N[i]? = some x) (hx : Loc X.env.scope x) (hf : X.fn x = true ∨ X.env.scope.names.lookup x = some .local) : PG X (.Name x pos) (tP X.K L (.nm i)) := (pg_name hN hi hx hf).imp fun v σ H Q h => by
  obtain ⟨O, ρ, oa, d, ρ', om, eo, r, e, q⟩ := h
  cases e
  have hl : i < L := by rw [← hL]; exact (List.getElem?_eq_some_iff.mp hi).1
  refine q _ _ (eo.val r hl) (fun j a ha => ?_) (Diff.set i σ _)
  unfold oaSet at ha
  split at ha
  · cases ha
  · exact ha
theorem gs_nil : PGs X [] (tPs X.K L .nil) := pgs_nil.imp fun v σ H Q h => by
  obtain ⟨O, ρ, oa, d, ρ', om, eo, r, e, q⟩ := h
  cases r with
  | nil =>
    cases e
    exact ⟨rfl, q σ oa eo (fun _ _ z => z) (Diff.refl _ _)⟩
  | cons _ _ => simp [bindPats] at e
theorem each_cons {e : Expr} {es : List Expr} {env : Env} (h : isStar e = false) : assignEach (e :: es) env = (false, assign e env) :: assignEach es env := by
  cases e <;> first | rfl | cases h
theorem each_len (env : Env) : ∀ es : List Expr, (es.all fun e => !isStar e) = true → (assignEach es env).length = es.length ∧ (assignEach es env).findIdx? (·.1) = none
  | [], _ => ⟨rfl, rfl⟩
  | e :: es, h => by
    have h' : (!isStar e) = true ∧ (es.all fun e => !isStar e) = true := by simpa using h
    rw [each_cons (by simpa using h'.1)]
    obtain ⟨h1, h2⟩ := each_len env es h'.2
    refine ⟨by rw [List.length_cons, List.length_cons, h1], ?_⟩
    rw [List.findIdx?_cons, h2]
    rfl
theorem gs_cons {e : Expr} {es : List Expr} {p : Pat} {ps : Pats} (h1 : PG X e (tP X.K L p)) (h2 : PGs X es (tPs X.K L ps)) (hs : isStar e = false) : PGs X (e :: es) (tPs X.K L (.cons p ps)) :=
  (pgs_cons h1 h2 (by rw [each_cons hs]; rfl)).imp fun v σ H Q h => by
  obtain ⟨O, ρ, oa, d, ρ', om, eo, r, e, q⟩ := h
  cases r with
  | nil => simp [bindPats] at e
  | @cons w ws d1 ds1 r1 r2 =>
    simp only [bindPats, Option.bind_eq_some_iff] at e
    obtain ⟨ρ1, e1, e2⟩ := e
    refine ⟨w, ws, rfl, O, ρ, oa, d1, ρ1, om, eo, r1, e1, fun σ1 oa1 eo1 sub1 df1 => ⟨O, ρ1, oa1, ds1, ρ', om, eo1, r2, e2, fun σ2 oa2 eo2 sub2 df2 => ?_⟩⟩
    exact q σ2 oa2 eo2 (fun i a z => sub1 i a (sub2 i a z)) ((df1.mono fun i z => List.mem_append_left _ z).trans (df2.mono fun i z => List.mem_append_right _ z))
theorem g_tup {es : List Expr} {k : Nat} {ps : Pats} (hc : X.calm = true) (h : PGs X es (tPs X.K L ps)) (hs : (es.all fun e => !isStar e) = true) (hl : plen ps = es.length) : PG X (.Tuple es k pos) (tP X.K L (.tp ps)) :=
  (pg_tup hc h (each_len _ es hs).1 (each_len _ es hs).2).imp fun v σ H Q h => by
  obtain ⟨O, ρ, oa, d, ρ', om, eo, r, e, q⟩ := h
  cases d <;> first
    | (cases e; done)
    | skip
  cases r with
  | tup h1 r1 => exact ⟨_, _, rfl, SqT.of (hid_iff.mp h1).2, by rw [r1.length, binds_len e, hl], O, ρ, oa, _, ρ', om, eo, r1, e, q⟩

/-! ### sources -/
abbrev Stb := (Addr → Prop) → Hp → Prop
def StB (b : Bool) (O : Addr → Prop) (H : Hp) : Stb := fun O1 H1 => Same (hid O H) (hid O1 H1) ∧ (b = true → Same H H1)
def Src (K : PySem.W.Frag) (J : It) (xs : List D) (S : Stb) : Prop := ∃ (Gw : Hp → Prop) (Y : Nat → Hp → V → Hp → Prop), Walk J xs.length Gw Y ∧ (∀ O1 H1, S O1 H1 → Gw H1) ∧
  ∀ i O1 H1 v H2, i < xs.length → S O1 H1 → OM O1 H1 → Y i H1 v H2 → Same H1 H2 ∧ ∃ d, xs[i]? = some d ∧ Rp K (hid O1 H2) v d
def tI (K : PySem.W.Frag) (G : Cfg) (L : Nat) (b : Bool) (it : Xi) : TI := fun σ H R => ∃ O ρ oa xs, OM O H ∧ EO K L O H σ ρ oa ∧ evIt G b it ρ = some xs ∧ ∀ J H', Same H H' → Src K J xs (StB b O H') → R J H'
theorem rb_list {K : PySem.W.Frag} {b : Bool} {O : Addr → Prop} {H : Hp} {v : V} {ds : List D} (h : RB K O H b v (.list ds)) : ∃ a vs, v = .ref a ∧ Rps K (hid O H) vs ds ∧ H a = some (.lst vs) ∧ ∀ O1 H1, StB b O H O1 H1 → H1 a = some (.lst vs) := by
  have vis : Rp K (hid O H) v (.list ds) → ∃ a vs, v = .ref a ∧ Rps K (hid O H) vs ds ∧ H a = some (.lst vs) ∧ ∀ O1 H1, StB b O H O1 H1 → H1 a = some (.lst vs) := fun r => by
    cases r with
    | lst h1 r1 => exact ⟨_, _, rfl, r1, (hid_iff.mp h1).2, fun O1 H1 s => (hid_iff.mp (s.1 _ _ h1)).2⟩
  cases b with
  | false => exact vis h
  | true =>
    rcases h with h | ⟨a, vs, ds', e1, e2, ho, e3, r⟩
    · exact vis h
    · cases e2
      exact ⟨a, vs, e1, r, e3, fun O1 H1 s => s.2 rfl _ _ e3⟩
theorem rb_tup {K : PySem.W.Frag} {b : Bool} {O : Addr → Prop} {H : Hp} {v : V} {ds : List D} (h : RB K O H b v (.tuple ds)) : ∃ a vs, v = .ref a ∧ Rps K (hid O H) vs ds ∧ H a = some (.tup vs) ∧ ∀ O1 H1, StB b O H O1 H1 → H1 a = some (.tup vs) := by
  have vis : Rp K (hid O H) v (.tuple ds) → ∃ a vs, v = .ref a ∧ Rps K (hid O H) vs ds ∧ H a = some (.tup vs) ∧ ∀ O1 H1, StB b O H O1 H1 → H1 a = some (.tup vs) := fun r => by
    cases r with
    | tup h1 r1 => exact ⟨_, _, rfl, r1, (hid_iff.mp h1).2, fun O1 H1 s => (hid_iff.mp (s.1 _ _ h1)).2⟩
  cases b with
  | false => exact vis h
  | true =>
    rcases h with h | ⟨a, vs, ds', e1, e2, ho, e3, r⟩
    · exact vis h
    · cases e2
theorem src_list {K : PySem.W.Frag} {b : Bool} {O : Addr → Prop} {H : Hp} {a : Addr} {vs : List V} {ds : List D} (r : Rps K (hid O H) vs ds) (st : ∀ O1 H1, StB b O H O1 H1 → H1 a = some (.lst vs)) : Src K (Itl K a) ds (StB b O H) := by
  refine ⟨_, _, r.length ▸ walk_list (K := K) (a := a) (xs := vs), fun O1 H1 s => SqL.of (st O1 H1 s), fun i O1 H1 v H2 hi s om y => ?_⟩
  obtain ⟨rfl, e⟩ := y
  obtain ⟨d, ed, rd⟩ := r.getV e
  exact ⟨Same.refl _, d, ed, rd.mono s.1⟩
theorem src_tup {K : PySem.W.Frag} {b : Bool} {O : Addr → Prop} {H : Hp} {a : Addr} {vs : List V} {ds : List D} (r : Rps K (hid O H) vs ds) (st : ∀ O1 H1, StB b O H O1 H1 → H1 a = some (.tup vs)) : Src K (Itt K a) ds (StB b O H) := by
  refine ⟨_, _, r.length ▸ walk_tup (K := K) (a := a) (xs := vs), fun O1 H1 s => SqT.of (st O1 H1 s), fun i O1 H1 v H2 hi s om y => ?_⟩
  obtain ⟨rfl, e⟩ := y
  obtain ⟨d, ed, rd⟩ := r.getV e
  exact ⟨Same.refl _, d, ed, rd.mono s.1⟩
theorem rngD_len {lo : Int} {n : Nat} : (rngD lo n).length = n := by unfold rngD; rw [List.length_map, List.length_range]
theorem rngD_get {lo : Int} {n i : Nat} (h : i < n) : (rngD lo n)[i]? = some (.int (lo + (i : Nat))) := by
  unfold rngD
  rw [List.getElem?_map, List.getElem?_range h]
  rfl
theorem src_rng {K : PySem.W.Frag} {S : Stb} {lo : Int} {n : Nat} : Src K (Itr lo n) (rngD lo n) S := by
  refine ⟨fun _ => True, YFn fun i => .int (lo + i), by rw [rngD_len]; exact walk_range (lo := lo) (n := n), fun _ _ _ => trivial, fun i O1 H1 v H2 hi s om y => ?_⟩
  obtain ⟨rfl, rfl⟩ := y
  rw [rngD_len] at hi
  exact ⟨Same.refl _, _, rngD_get hi, .int _⟩
theorem enumD_len : ∀ (n : Nat) (xs : List D), (enumD n xs).length = xs.length
  | _, [] => rfl
  | n, x :: xs => by
    show (_ :: enumD (n + 1) xs).length = _
    rw [List.length_cons, List.length_cons, enumD_len (n + 1) xs]
theorem enumD_get : ∀ (n : Nat) (xs : List D) (i : Nat), (enumD n xs)[i]? = (xs[i]?).map fun x => .tuple [.int ((n + i : Nat) : Int), x]
  | _, [], i => by simp [enumD]
  | n, x :: xs, 0 => by simp [enumD]
  | n, x :: xs, i + 1 => by
    show (_ :: enumD (n + 1) xs)[i + 1]? = _
    rw [List.getElem?_cons_succ, List.getElem?_cons_succ, enumD_get (n + 1) xs i, show n + 1 + i = n + (i + 1) by omega]
theorem pair_new {K : PySem.W.Frag} {O : Addr → Prop} {H : Hp} {T : Addr} {x y : V} {d e : D} (om : OM O H) (n : H T = none) (rx : Rp K (hid O H) x d) (ry : Rp K (hid O H) y e) : Same H (upd H T (.tup [x, y])) ∧ Rp K (hid O (upd H T (.tup [x, y]))) (.ref T) (.tuple [d, e]) := by
  have s := same_upd (o := .tup [x, y]) n
  refine ⟨s, .tup (hid_iff.mpr ⟨fun z => ?_, upd_same⟩) (.cons (rx.mono (hid_same s)) (.cons (ry.mono (hid_same s)) .nil))⟩
  obtain ⟨o, e, _⟩ := om T z
  rw [n] at e; cases e
theorem src_enum {K : PySem.W.Frag} {b : Bool} {O : Addr → Prop} {H : Hp} {a : Addr} {vs : List V} {ds : List D} (r : Rps K (hid O H) vs ds) (st : ∀ O1 H1, StB b O H O1 H1 → H1 a = some (.lst vs)) : Src K (Ite K a) (enumD 0 ds) (StB b O H) := by
  refine ⟨_, _, (r.length.trans (enumD_len 0 ds).symm) ▸ walk_enum (K := K) (a := a) (xs := vs), fun O1 H1 s => SqL.of (st O1 H1 s), fun i O1 H1 v H2 hi s om y => ?_⟩
  obtain ⟨T, x, y, rfl, hT, rfl, e1, e2⟩ := y
  cases e1
  obtain ⟨d, ed, rd⟩ := r.getV e2
  obtain ⟨s1, r1⟩ := pair_new om hT (.int (i : Nat)) (rd.mono s.1)
  exact ⟨s1, _, by rw [enumD_get, ed]; simp, r1⟩
theorem zipD_len : ∀ xs ys : List D, (zipD xs ys).length = min xs.length ys.length
  | [], _ => by simp [zipD]
  | _ :: _, [] => by simp [zipD]
  | x :: xs, y :: ys => by
    show (_ :: zipD xs ys).length = _
    rw [List.length_cons, zipD_len xs ys, List.length_cons, List.length_cons]
    omega
theorem zipD_get : ∀ (xs ys : List D) (i : Nat) (x y : D), xs[i]? = some x → ys[i]? = some y → (zipD xs ys)[i]? = some (.tuple [x, y])
  | [], _, _, _, _, h, _ => by simp at h
  | _ :: _, [], _, _, _, _, h => by simp at h
  | x :: xs, y :: ys, 0, _, _, h, h2 => by simp at h h2; subst h h2; rfl
  | x :: xs, y :: ys, i + 1, _, _, h, h2 => by
    show (_ :: zipD xs ys)[i + 1]? = _
    rw [List.getElem?_cons_succ]
    exact zipD_get xs ys i _ _ (by simpa using h) (by simpa using h2)
theorem src_zip {K : PySem.W.Frag} {b : Bool} {O : Addr → Prop} {H : Hp} {a a2 : Addr} {vs ws : List V} {ds es : List D} (r : Rps K (hid O H) vs ds) (st : ∀ O1 H1, StB b O H O1 H1 → H1 a = some (.lst vs)) (r2 : Rps K (hid O H) ws es) (st2 : ∀ O1 H1, StB b O H O1 H1 → H1 a2 = some (.lst ws)) :
    Src K (Itz K a a2) (zipD ds es) (StB b O H) := by
  refine ⟨_, _, walk_zip (K := K) (a := a) (b := a2) (xs := vs) (ys := ws) (n := (zipD ds es).length) (by rw [zipD_len, r.length, r2.length]), fun O1 H1 s => ⟨SqL.of (st O1 H1 s), SqL.of (st2 O1 H1 s)⟩, fun i O1 H1 v H2 hi s om y => ?_⟩
  obtain ⟨T, x, y, rfl, hT, rfl, e1, e2⟩ := y
  obtain ⟨d, ed, rd⟩ := r.getV e1
  obtain ⟨d2, ed2, rd2⟩ := r2.getV e2
  obtain ⟨s1, r1⟩ := pair_new om hT (rd.mono s.1) (rd2.mono s.1)
  exact ⟨s1, _, zipD_get _ _ _ _ _ ed ed2, r1⟩
theorem stb_up {b : Bool} {O O1 : Addr → Prop} {H H' H1 : Hp} (s : Same H H') (h : StB b O H' O1 H1) : StB b O H O1 H1 := ⟨(hid_same s).trans h.1, fun z => s.trans (h.2 z)⟩
variable {a c : Expr} {x y : Xp} {b : Bool} {tg : Expr} {p : Pos}
theorem i_seq (ha : PE X a (tE X.K G L b x)) : PI X tg a (tI X.K G L b (.seq x)) := ((pi_list ha).or (pi_tup ha)).imp fun σ H R h => by
  obtain ⟨O, ρ, oa, xs, om, eo, e, q⟩ := h
  simp only [evIt, Option.bind_eq_some_iff] at e
  obtain ⟨d, ed, e⟩ := e
  cases d <;> first
    | (cases e; done)
    | skip
  · cases e
    refine .inl ⟨O, ρ, oa, _, om, eo, ed, post_rb fun v H1 s1 r1 => ?_⟩
    obtain ⟨l, vs, rfl, r, e1, st⟩ := rb_list r1
    exact ⟨l, rfl, ⟨vs, SqL.of e1⟩, q _ H1 s1 (src_list r st)⟩
  · cases e
    refine .inr ⟨O, ρ, oa, _, om, eo, ed, post_rb fun v H1 s1 r1 => ?_⟩
    obtain ⟨l, vs, rfl, r, e1, st⟩ := rb_tup r1
    exact ⟨l, rfl, ⟨vs, SqT.of e1⟩, q _ H1 s1 (src_tup r st)⟩
theorem i_rng1 (hg : Gl X "range") (hm : X.mg "range" = none) (ha : PA X [a] (tAs X.K G L false (.cons x .nil))) (hs : isStar a = false) : PI X tg (.Call (.Name "range" p) [a] [] pos) (tI X.K G L b (.rng (.cons x .nil))) :=
  (pi_range1 hg hm ha (star_cons hs)).imp fun σ H R h => by
  obtain ⟨O, ρ, oa, xs, om, eo, e, q⟩ := h
  simp only [evIt, Option.bind_eq_some_iff] at e
  obtain ⟨ds, ed, e⟩ := e
  have l1 : ds.length = 1 := by
    simp only [evs, Option.bind_eq_some_iff, Option.map_eq_some_iff, Option.some.injEq] at ed
    obtain ⟨_, _, _, rfl, rfl⟩ := ed; rfl
  split at e
  · split at e
    · rename_i n hb
      cases e
      rw [rngOk_iff] at hb
      refine ⟨O, ρ, oa, _, om, eo, ed, fun vs H1 s1 (r1 : Rps X.K (hid O H1) vs _) => ?_⟩
      cases r1 with
      | cons r1 r2 =>
        cases r1
        cases r2
        exact ⟨n, rfl, hb.1, hb.2, q _ H1 s1 src_rng⟩
    · cases e
  · exact absurd l1 (by simp)
  · cases e
theorem i_rng2 (hg : Gl X "range") (hm : X.mg "range" = none) (ha : PA X [a, c] (tAs X.K G L false (.cons x (.cons y .nil)))) (hs : isStar a = false) (hs2 : isStar c = false) : PI X tg (.Call (.Name "range" p) [a, c] [] pos) (tI X.K G L b (.rng (.cons x (.cons y .nil)))) :=
  (pi_range2 hg hm ha ((star_cons hs).trans (by rw [star_cons hs2]; rfl)) (star_cons hs2)).imp fun σ H R h => by
  obtain ⟨O, ρ, oa, xs, om, eo, e, q⟩ := h
  simp only [evIt, Option.bind_eq_some_iff] at e
  obtain ⟨ds, ed, e⟩ := e
  have l1 : ds.length = 2 := by
    simp only [evs, Option.bind_eq_some_iff, Option.map_eq_some_iff, Option.some.injEq] at ed
    obtain ⟨_, _, _, ⟨_, _, _, rfl, rfl⟩, rfl⟩ := ed; rfl
  split at e
  · exact absurd l1 (by simp)
  · split at e
    · rename_i i n hb
      cases e
      rw [Bool.and_eq_true, rngOk_iff, rngOk_iff] at hb
      refine ⟨O, ρ, oa, _, om, eo, ed, fun vs H1 s1 (r1 : Rps X.K (hid O H1) vs _) => ?_⟩
      cases r1 with
      | cons r1 r2 =>
        cases r1
        cases r2 with
        | cons r2 r3 =>
          cases r2
          cases r3
          exact ⟨i, n, rfl, ⟨hb.1.1, hb.1.2, hb.2.1, hb.2.2⟩, q _ H1 s1 src_rng⟩
    · cases e
  · cases e
theorem rbs_one {K : PySem.W.Frag} {O : Addr → Prop} {H : Hp} {vs : List V} {d : D} (h : RBs K O H b vs [d]) : ∃ v, vs = [v] ∧ RB K O H b v d := by
  cases b with
  | true => exact BRps.one h
  | false =>
    cases (show Rps K (hid O H) vs [d] from h) with
    | cons r1 r2 => cases r2; exact ⟨_, rfl, r1⟩
theorem rbs_two {K : PySem.W.Frag} {O : Addr → Prop} {H : Hp} {vs : List V} {d e : D} (h : RBs K O H b vs [d, e]) : ∃ v w, vs = [v, w] ∧ RB K O H b v d ∧ RB K O H b w e := by
  cases b with
  | true => exact BRps.two h
  | false =>
    cases (show Rps K (hid O H) vs [d, e] from h) with
    | cons r1 r2 =>
      cases r2 with
      | cons r2 r3 => cases r3; exact ⟨_, _, rfl, r1, r2⟩
theorem i_enum {els : List Expr} {kk : Nat} {tpos : Pos} (hg : Gl X "enumerate") (hm : X.mg "enumerate" = none) (ha : PA X [a] (tAs X.K G L b (.cons x .nil))) (hs : isStar a = false) : PI X (.Tuple els kk tpos) (.Call (.Name "enumerate" p) [a] [] pos) (tI X.K G L b (.enum x)) :=
  (pi_enum hg hm ha (star_cons hs)).imp fun σ H R h => by
  obtain ⟨O, ρ, oa, xs, om, eo, e, q⟩ := h
  simp only [evIt, Option.bind_eq_some_iff] at e
  obtain ⟨d, ed, e⟩ := e
  split at e
  · rename_i ds
    cases e
    refine ⟨O, ρ, oa, [.list ds], om, eo, by simp [evs, ed], fun vs H1 s1 r1 => ?_⟩
    obtain ⟨v, rfl, r3⟩ := rbs_one r1
    obtain ⟨l, ws, rfl, r, e1, st⟩ := rb_list r3
    exact ⟨l, ws, rfl, SqL.of e1, q _ H1 s1 (src_enum r st)⟩
  · cases e
theorem i_zip {els : List Expr} {kk : Nat} {tpos : Pos} (hg : Gl X "zip") (hm : X.mg "zip" = none) (ha : PA X [a, c] (tAs X.K G L b (.cons x (.cons y .nil)))) (hs : isStar a = false) (hs2 : isStar c = false) : PI X (.Tuple els kk tpos) (.Call (.Name "zip" p) [a, c] [] pos) (tI X.K G L b (.zip x y)) :=
  (pi_zip hg hm ha (star_cons hs) (star_none _ _ [c] (by simp [hs2]))).imp fun σ H R h => by
  obtain ⟨O, ρ, oa, xs, om, eo, e, q⟩ := h
  simp only [evIt, Option.bind_eq_some_iff] at e
  obtain ⟨d, ed, d2, ed2, e⟩ := e
  split at e
  · rename_i ds es
    cases e
    refine ⟨O, ρ, oa, [.list ds, .list es], om, eo, by simp [evs, ed, ed2], fun vs H1 s1 r1 => ?_⟩
    obtain ⟨v, w, rfl, r3, r4⟩ := rbs_two r1
    obtain ⟨l, ws, rfl, r, e1, st⟩ := rb_list r3
    obtain ⟨l2, ws2, rfl, r2, e2, st2⟩ := rb_list r4
    exact ⟨l, l2, ws, ws2, rfl, SqL.of e1, SqL.of e2, q _ H1 s1 (src_zip r st r2 st2)⟩
  · cases e
end
end Pv

set_option Elab.async false
set_option linter.all false
set_option maxRecDepth 100000
set_option maxHeartbeats 1000000
/-! Comprehensions. -/
namespace Pv
open PySem PySem.Spec PyProof.Rows L2

theorem walk_W {J : It} {n : Nat} {Gw : Hp → Prop} {Y : Nat → Hp → V → Hp → Prop} (w : Walk J n Gw Y) {H0 : Hp} (Iv : Nat → Hp → Prop) (h0 : Iv 0 H0) (hG : ∀ i H, i ≤ n → Iv i H → Gw H) {T : (Hp → Prop) → V → Hp → Prop} {Qd : Hp → Prop}
    (hs : ∀ i x H H', i < n → Iv i H → Y i H x H' → T (Iv (i + 1)) x H') (hd : ∀ H, Iv n H → Qd H) :
    ∃ W : Nat → Nat → Hp → Prop, (∃ m, W 0 m H0) ∧ ∀ i m H, W i m H → (J.stop i H ∧ Qd H) ∨ (J.go i H ∧ ∃ Nx : Hp → Prop, (∀ H', Nx H' → ∃ m', m' < m ∧ W (i + 1) m' H') ∧ ∀ x H', J.yld i H x H' → T Nx x H') := by
  refine ⟨fun i m H => m = n - i ∧ i ≤ n ∧ Iv i H, ⟨n, by simp, Nat.zero_le _, h0⟩, ?_⟩
  rintro i m H ⟨rfl, hi, p⟩
  have q := hG i H hi p
  by_cases hlt : i < n
  · exact .inr ⟨w.goes i H hlt q, Iv (i + 1), fun H' p' => ⟨n - (i + 1), by omega, rfl, hlt, p'⟩, fun x H' y => hs i x H H' hlt p (w.yields i H x H' hlt q y)⟩
  · have e : i = n := by omega
    subst e
    exact .inl ⟨w.stops H q, hd H p⟩

/-- what a comprehension gathers at D, of the values ys in all -/
structure AccS (K : PySem.W.Frag) (O' : Addr → Prop) (D : Addr) (ys : List Pv.D) (A : Hp → List Pv.D → Prop) (AD : V → Hp → (Hp → Prop) → Prop) : Prop where
  keep : ∀ H H' zs, (∀ o, H D = some o → H' D = some o) → Same (hid O' H) (hid O' H') → A H zs → A H' zs
  add : ∀ H zs d rest y (Nx : Hp → Prop), A H zs → Rp K (hid O' H) y d → ys = zs ++ d :: rest → (∀ o, A (upd H D o) (zs ++ [d]) → Nx (upd H D o)) → AD y H Nx
  mtb : ∀ H zs, A H zs → ∃ o, H D = some o ∧ MutO o
theorem same_D {D : Addr} {Hb H : Hp} {o : HO} (nb : Hb D = none) (s : Same Hb H) : Same Hb (upd H D o) := fun b x e => by
  rw [upd_ne (ne_of_none e nb)]
  exact s b x e
theorem lcGo_cons {f : Pv.D → Option (Option Pv.D)} {x : Pv.D} {xs ws : List Pv.D} (h : lcGo f (x :: xs) = some ws) : ∃ o rest, f x = some o ∧ lcGo f xs = some rest ∧ ws = o.toList ++ rest := by
  simp only [lcGo, Option.bind_eq_some_iff, Option.map_eq_some_iff] at h
  obtain ⟨o, e1, rest, e2, e3⟩ := h
  refine ⟨o, rest, e1, e2, ?_⟩
  cases o with
  | none => exact e3.symm
  | some y => exact e3.symm
theorem lcGo2_cons {f : Pv.D → Option (List Pv.D)} {x : Pv.D} {xs ws : List Pv.D} (h : lcGo2 f (x :: xs) = some ws) : ∃ o rest, f x = some o ∧ lcGo2 f xs = some rest ∧ ws = o ++ rest := by
  simp only [lcGo2, Option.bind_eq_some_iff, Option.map_eq_some_iff] at h
  obtain ⟨o, e1, rest, e2, e3⟩ := h
  exact ⟨o, rest, e1, e2, e3.symm⟩
theorem drop_get {α : Type} {xs : List α} {i : Nat} {d : α} (h : xs[i]? = some d) : xs.drop i = d :: xs.drop (i + 1) := by
  obtain ⟨hl, e⟩ := List.getElem?_eq_some_iff.mp h
  rw [List.drop_eq_getElem_cons hl, e]

section
variable {K : PySem.W.Frag} {G : Cfg} {L : Nat} {O' : Addr → Prop} {D : Addr} {A : Hp → List Pv.D → Prop} {AD : V → Hp → (Hp → Prop) → Prop} {ys : List Pv.D}
/-- a loop: each item gives a list of values, gathered -/
theorem loopG {J : It} {xs : List Pv.D} {S : Stb} (src : Src K J xs S) (acc : AccS K O' D ys A AD) {Go : List Pv.D → Option (List Pv.D)} {f : Pv.D → Option (List Pv.D)} (hgo : ∀ x xs ws, Go (x :: xs) = some ws → ∃ o rest, f x = some o ∧ Go xs = some rest ∧ ws = o ++ rest) (hgn : ∀ ws, Go [] = some ws → ws = [])
    {Hb H0 : Hp} {zs ws tl : List Pv.D} (hy : ys = zs ++ ws ++ tl) (hf : Go xs = some ws) (om : ∀ a, O' a → a = D ∨ ∃ o, Hb a = some o ∧ MutO o) (s0 : Same Hb H0) (a0 : A H0 zs)
    (hst : ∀ Hi, Same Hb Hi → Same (hid O' H0) (hid O' Hi) → S O' Hi) {T : (Hp → Prop) → V → Hp → Prop} {Qd : Hp → Prop}
    (step : ∀ (Nx : Hp → Prop) x d o Hi zs tl, Same Hb Hi → Same (hid O' H0) (hid O' Hi) → OM O' Hi → A Hi zs → Rp K (hid O' Hi) x d → f d = some o → ys = zs ++ o ++ tl → (∀ H', Same Hb H' → Same (hid O' Hi) (hid O' H') → A H' (zs ++ o) → Nx H') → T Nx x Hi)
    (hd : ∀ Hn, Same Hb Hn → Same (hid O' H0) (hid O' Hn) → A Hn (zs ++ ws) → Qd Hn) :
    ∃ W : Nat → Nat → Hp → Prop, (∃ m, W 0 m H0) ∧ ∀ i m H, W i m H → (J.stop i H ∧ Qd H) ∨ (J.go i H ∧ ∃ Nx : Hp → Prop, (∀ H', Nx H' → ∃ m', m' < m ∧ W (i + 1) m' H') ∧ ∀ x H', J.yld i H x H' → T Nx x H') := by
  obtain ⟨Gw, Y, w, st, yd⟩ := src
  have mk : ∀ {H zs}, Same Hb H → A H zs → OM O' H := fun s a b hb => by
    rcases om b hb with rfl | ⟨o, e, m⟩
    · exact acc.mtb _ _ a
    · exact ⟨o, s _ _ e, m⟩
  refine walk_W w (fun i Hi => Same Hb Hi ∧ Same (hid O' H0) (hid O' Hi) ∧ ∃ z2 rest, A Hi (zs ++ z2) ∧ Go (xs.drop i) = some rest ∧ ws = z2 ++ rest) ?_ ?_ ?_ ?_
  · exact ⟨s0, Same.refl _, [], ws, by simpa using a0, by simpa using hf, rfl⟩
  · rintro i H hi ⟨s1, s2, _⟩
    exact st O' H (hst H s1 s2)
  · rintro i x H H' hi ⟨s1, s2, z2, rest, a1, e1, e2⟩ y
    have om1 := mk s1 a1
    obtain ⟨s3, d, ed, rd⟩ := yd i O' H x H' hi (hst H s1 s2) om1 y
    rw [drop_get ed] at e1
    obtain ⟨o, rest', f1, f2, f3⟩ := hgo _ _ _ e1
    subst f3
    refine step _ x d o H' (zs ++ z2) (rest' ++ tl) (s1.trans s3) (s2.trans (hid_same s3)) (om1.mono s3) (acc.keep _ _ _ (fun o e => s3 _ _ e) (hid_same s3) a1) rd f1 (by rw [hy, e2]; simp) fun H2 t1 t2 a2 => ?_
    exact ⟨t1, (s2.trans (hid_same s3)).trans t2, z2 ++ o, rest', by simpa using a2, f2, by rw [e2]; simp⟩
  · rintro H ⟨s1, s2, z2, rest, a1, e1, e2⟩
    rw [List.drop_length] at e1
    rw [hgn _ e1, List.append_nil] at e2
    subst e2
    exact hd H s1 s2 a1
def tIfs (K : PySem.W.Frag) (G : Cfg) (L : Nat) (ifs : Xps) : TT := fun σ H Q => ∃ O ρ oa t, OM O H ∧ EO K L O H σ ρ oa ∧ evIfs G ifs ρ = some t ∧ ∀ H', Same H H' → Q t H'
def elOf (G : Cfg) (ρ : En) (e : Xp) (p : Pat) (ifs : Xps) (own : List Nat) : Pv.D → Option (Option Pv.D) := fun x => (bindPat p x (wipeE ρ own)).bind fun ρ1 => (evIfs G ifs ρ1).bind fun c => if c then (ev G false e ρ1).map some else some none
/-- the innermost turn -/
theorem bodyG (acc : AccS K O' D ys A AD) {Hb : Hp} (nb : Hb D = none) (oD : O' D) {σ : L2.St} {ρ : En} {oa : OA} {e : Xp} {p : Pat} {ifs : Xps} {vs : List Nat} (hp : ∀ i ∈ slots p, i ∈ vs) {Nx : Hp → Prop} {x : V} {d : Pv.D} {o : Option Pv.D} {Hi : Hp} {zs tl : List Pv.D} (sb : Same Hb Hi) (om : OM O' Hi) (eo : EO K L O' Hi σ ρ oa) (a : A Hi zs)
    (rx : Rp K (hid O' Hi) x d) (hf : elOf G ρ e p ifs vs d = some o) (hy : ys = zs ++ o.toList ++ tl) (nx : ∀ H', Same Hb H' → Same (hid O' Hi) (hid O' H') → A H' (zs ++ o.toList) → Nx H') :
    tP K L p x (L2.wipe σ vs) Hi fun σ2 H2 => L2.wipe σ2 vs = L2.wipe σ vs ∧ tIfs K G L ifs σ2 H2 fun b H3 => if b = true then tE K G L false e σ2 H3 (fun y H4 => AD y H4 Nx) else Nx H3 := by
  unfold elOf at hf
  simp only [Option.bind_eq_some_iff] at hf
  obtain ⟨ρ1, e1, c, e2, e3⟩ := hf
  refine ⟨O', wipeE ρ vs, oa, d, ρ1, om, eo.wipe vs, rx, e1, fun σ2 oa2 eo2 sub2 df => ⟨(df.wipe hp).trans (wipe_wipe vs σ), O', ρ1, oa2, c, om, eo2, e2, fun H3 s3 => ?_⟩⟩
  cases c with
  | false =>
    have e3' : some none = some o := e3
    cases e3'
    exact nx H3 (sb.trans s3) (hid_same s3) (by simpa using acc.keep _ _ _ (fun o e => s3 _ _ e) (hid_same s3) a)
  | true =>
    have e3' : (ev G false e ρ1).map some = some o := e3
    obtain ⟨y, ey, rfl⟩ := Option.map_eq_some_iff.mp e3'
    refine ⟨O', ρ1, oa2, y, om.mono s3, eo2.mono s3, ey, fun v H4 s4 r4 _ => ?_⟩
    have s34 := s3.trans s4
    refine acc.add H4 zs y tl v Nx (acc.keep _ _ _ (fun o e => s34 _ _ e) (hid_same s34) a) r4 (by simpa using hy) fun o' a' => ?_
    exact nx _ (same_D nb (sb.trans s34)) ((hid_same s34).trans (hid_upd oD)) a'

theorem accL (hl : ys.length < line) (oD : O' D) : AccS K O' D ys (fun H zs => ∃ acc, H D = some (.lst acc) ∧ Rps K (hid O' H) acc zs) (fun y H Nx => ∃ acc, H D = some (.lst acc) ∧ acc.length < sizeLine ∧ Nx (upd H D (.lst (acc ++ [y])))) where
  keep H H' zs s t a := by
    obtain ⟨acc, e, r⟩ := a
    exact ⟨acc, s _ e, r.mono t⟩
  add H zs d rest y Nx a r e nx := by
    obtain ⟨acc, e1, r1⟩ := a
    refine ⟨acc, e1, ?_, nx _ ⟨_, upd_same, (r1.append (.cons r .nil)).mono (hid_upd oD)⟩⟩
    rw [r1.length]
    rw [e, List.length_append] at hl
    exact Nat.lt_of_le_of_lt (Nat.le_add_right _ _) hl
  mtb H zs a := by
    obtain ⟨acc, e, r⟩ := a
    exact ⟨_, e, trivial⟩

/-! sets of ints -/
theorem toInts_app : ∀ {a b : List Pv.D} {is : List Int}, toInts (a ++ b) = some is → ∃ js ks, toInts a = some js ∧ toInts b = some ks ∧ is = js ++ ks
  | [], b, is, h => ⟨[], is, rfl, h, rfl⟩
  | x :: a, b, is, h => by
    cases x <;> first
      | (cases h; done)
      | skip
    rename_i i
    have h' : (toInts (a ++ b)).map (i :: ·) = some is := h
    obtain ⟨ms, e1, rfl⟩ := Option.map_eq_some_iff.mp h'
    obtain ⟨js, ks, e2, e3, rfl⟩ := toInts_app e1
    refine ⟨i :: js, ks, ?_, e3, rfl⟩
    show (toInts a).map (i :: ·) = _
    rw [e2]; rfl
theorem toInts_append : ∀ {a b : List Pv.D} {js ks : List Int}, toInts a = some js → toInts b = some ks → toInts (a ++ b) = some (js ++ ks)
  | [], b, js, ks, h, h2 => by cases h; exact h2
  | x :: a, b, js, ks, h, h2 => by
    cases x <;> first
      | (cases h; done)
      | skip
    rename_i i
    have h' : (toInts a).map (i :: ·) = some js := h
    obtain ⟨ms, e1, rfl⟩ := Option.map_eq_some_iff.mp h'
    show (toInts (a ++ b)).map (i :: ·) = _
    rw [toInts_append e1 h2]; rfl
theorem toInts_len : ∀ {a : List Pv.D} {js : List Int}, toInts a = some js → js.length = a.length
  | [], js, h => by cases h; rfl
  | x :: a, js, h => by
    cases x <;> first
      | (cases h; done)
      | skip
    rename_i i
    have h' : (toInts a).map (i :: ·) = some js := h
    obtain ⟨ms, e1, rfl⟩ := Option.map_eq_some_iff.mp h'
    rw [List.length_cons, List.length_cons, toInts_len e1]
theorem dedupI_mem {j : Int} : ∀ {l : List Int}, j ∈ dedupI l ↔ j ∈ l
  | [] => Iff.rfl
  | x :: r => by
    unfold dedupI
    split
    · rename_i h
      rw [dedupI_mem, List.mem_cons]
      exact ⟨.inr, fun z => z.elim (fun e => e ▸ h) id⟩
    · rw [List.mem_cons, List.mem_cons, dedupI_mem]
theorem dedupI_nodup : ∀ l : List Int, (dedupI l).Nodup
  | [] => .nil
  | x :: r => by
    unfold dedupI
    split
    · exact dedupI_nodup r
    · rename_i h
      exact List.nodup_cons.mpr ⟨fun z => h (dedupI_mem.mp z), dedupI_nodup r⟩
theorem dedupI_le : ∀ l : List Int, (dedupI l).length ≤ l.length
  | [] => Nat.le_refl _
  | x :: r => by
    unfold dedupI
    split
    · exact Nat.le_trans (dedupI_le r) (Nat.le_succ _)
    · rw [List.length_cons, List.length_cons]; exact Nat.succ_le_succ (dedupI_le r)
theorem dedupI_snoc (l : List Int) (c : Int) : (dedupI (l ++ [c])).length = if decide (c ∈ l) = true then (dedupI l).length else (dedupI l).length + 1 := by
  by_cases h : c ∈ l
  · rw [if_pos (decide_eq_true h)]
    refine List.Perm.length_eq ((List.perm_ext_iff_of_nodup (dedupI_nodup _) (dedupI_nodup _)).mpr fun a => ?_)
    rw [dedupI_mem, dedupI_mem, List.mem_append, List.mem_singleton]
    exact ⟨fun z => z.elim id fun e => e ▸ h, .inl⟩
  · rw [if_neg (by simpa using h), ← List.length_cons (a := c)]
    refine List.Perm.length_eq ((List.perm_ext_iff_of_nodup (dedupI_nodup _) (List.nodup_cons.mpr ⟨fun z => h (dedupI_mem.mp z), dedupI_nodup _⟩)).mpr fun a => ?_)
    rw [dedupI_mem, List.mem_cons, dedupI_mem, List.mem_append, List.mem_singleton]
    exact or_comm
theorem sorted_set_eq {ns is : List Int} (h : ns.Pairwise (· < ·)) (m : ∀ k, k ∈ ns ↔ k ∈ is) : ns = sortI (dedupI is) := by
  have nd : ns.Nodup := h.imp fun z => Int.ne_of_lt z
  refine sortI_eq ((List.perm_ext_iff_of_nodup nd (dedupI_nodup _)).mpr fun a => ?_) (h.imp fun z => Int.le_of_lt z)
  rw [dedupI_mem]; exact m a
theorem accS {w : World} {is : List Int} (hi : toInts ys = some is) (hl : ys.length < 1000) (oD : O' D) : AccS K O' D ys (fun H zs => ∃ js, toInts zs = some js ∧ H D = some (SetO w D (fun j => decide (j ∈ js)) (dedupI js).length))
    (fun y H Nx => ∃ (c : Int) (S : Int → Bool) (n : Nat), y = .int c ∧ H D = some (SetO w D S n) ∧ n + 1 < scanBound ∧ Nx (upd H D (SetO w D (fun j => S j || decide (j = c)) (if S c = true then n else n + 1)))) where
  keep H H' zs s t a := by
    obtain ⟨js, e, r⟩ := a
    exact ⟨js, e, s _ r⟩
  add H zs d rest y Nx a r e nx := by
    obtain ⟨js, e1, r1⟩ := a
    rw [e] at hi
    obtain ⟨js', ks, e2, e3, rfl⟩ := toInts_app hi
    rw [e1] at e2
    cases e2
    cases d <;> first
      | (cases e3; done)
      | skip
    rename_i c
    cases r
    refine ⟨c, _, _, rfl, r1, ?_, nx _ ⟨js ++ [c], toInts_append e1 rfl, ?_⟩⟩
    · have h1 := dedupI_le js
      have h2 := toInts_len e1
      have h3 : zs.length ≤ ys.length := by rw [e, List.length_append]; omega
      unfold scanBound
      omega
    · rw [upd_same, dedupI_snoc]
      congr 2
      funext j
      rw [Bool.eq_iff_iff]
      simp
  mtb H zs a := by
    obtain ⟨acc, e, r⟩ := a
    exact ⟨_, r, trivial⟩
end
end Pv

set_option Elab.async false
set_option linter.all false
set_option maxRecDepth 100000
set_option maxHeartbeats 1000000
/-! Comprehensions as expressions. -/
namespace Pv
open PySem PySem.Spec PyProof.Rows L2

theorem EO.at {K : PySem.W.Frag} {L : Nat} {O' : Addr → Prop} {Hb H H' : Hp} {σ : L2.St} {ρ : En} {oa : OA} (eo : EO K L O' H σ ρ oa) (dom : ∀ i a, a ∈ oa i → ∃ o, Hb a = some o) (s : Same Hb H) (s' : Same Hb H') (t : Same (hid O' H) (hid O' H')) : EO K L O' H' σ ρ oa :=
  eo.to (fun i a ha o e => by
    obtain ⟨o', e'⟩ := dom i a ha
    rw [s _ _ e'] at e
    cases e
    exact s' _ _ e') t eo.own
def el2Of (G : Cfg) (ρ : En) (e : Xp) (p : Pat) (ifs : Xps) (own : List Nat) (it2 : Xi) (p2 : Pat) (ifs2 : Xps) (own2 : List Nat) : Pv.D → Option (List Pv.D) := fun x => (bindPat p x (wipeE ρ own)).bind fun ρ1 => (evIfs G ifs ρ1).bind fun c => if c then (evIt G false it2 ρ1).bind fun xs2 =>
  lcGo (elOf G ρ1 e p2 ifs2 own2) xs2 else some []
section
variable {K : PySem.W.Frag} {G : Cfg} {L : Nat} {O : Addr → Prop} {D : Addr} {A : Hp → List Pv.D → Prop} {AD : V → Hp → (Hp → Prop) → Prop} {ys : List Pv.D} {J : It} {xs : List Pv.D} {H1 : Hp} {σ : L2.St} {ρ : En} {oa : OA} {e : Xp} {p p2 : Pat} {ifs ifs2 : Xps} {it2 : Xi} {vs vs2 : List Nat} {o0 : HO} {Qd : Hp → Prop}
abbrev plus (O : Addr → Prop) (D : Addr) : Addr → Prop := fun a => O a ∨ a = D
theorem plus_om (om : OM O H1) : ∀ a, plus O D a → a = D ∨ ∃ o, H1 a = some o ∧ MutO o := fun a ha => ha.elim (fun z => .inr (om a z)) .inl
theorem plus_new (nb : H1 D = none) : ∀ a, plus O D a → O a ∨ H1 a = none := fun a ha => ha.elim .inl fun z => .inr (z ▸ nb)
theorem run1 (nb : H1 D = none) (om : OM O H1) (eo : EO K L O H1 σ ρ oa) (src : Src K J xs (StB true O H1)) (hf : lcGo (elOf G ρ e p ifs vs) xs = some ys) (hp : ∀ i ∈ slots p, i ∈ vs) (acc : AccS K (plus O D) D ys A AD) (a0 : A (upd H1 D o0) []) (hd : ∀ Hn, Same H1 Hn → A Hn ys → Qd Hn) :
    ∃ W : Nat → Nat → Hp → Prop, (∃ m, W 0 m (upd H1 D o0)) ∧ ∀ i m H, W i m H → (J.stop i H ∧ Qd H) ∨ (J.go i H ∧ ∃ Nx : Hp → Prop, (∀ H', Nx H' → ∃ m', m' < m ∧ W (i + 1) m' H') ∧ ∀ x H', J.yld i H x H' →
      tP K L p x (L2.wipe σ vs) H' fun σ2 H2 => L2.wipe σ2 vs = L2.wipe σ vs ∧ tIfs K G L ifs σ2 H2 fun b H3 => if b = true then tE K G L false e σ2 H3 (fun y H4 => AD y H4 Nx) else Nx H3) := by
  refine loopG src acc (Go := lcGo (elOf G ρ e p ifs vs)) (f := fun x => (elOf G ρ e p ifs vs x).map Option.toList) (Hb := H1) (zs := []) (ws := ys) (tl := []) ?_ ?_ (by simp) hf (plus_om om) (same_upd nb) a0 ?_ ?_ ?_
  · intro x xs ws h
    obtain ⟨o, rest, e1, e2, e3⟩ := lcGo_cons h
    exact ⟨o.toList, rest, by rw [e1]; rfl, e2, e3⟩
  · intro ws h; cases h; rfl
  · exact fun Hi s t => ⟨hid_new s (plus_new nb), fun _ => s⟩
  · intro Nx x d o Hi zs tl s _ om' a rx e1 e2 nx
    obtain ⟨o', e3, rfl⟩ := Option.map_eq_some_iff.mp e1
    exact bodyG acc nb (.inr rfl) hp s om' (eo.hide s (plus_new nb) fun a ha => .inl ha) a rx e3 e2 nx
  · intro Hn s t a
    exact hd Hn s (by simpa using a)
theorem run2 (nb : H1 D = none) (om : OM O H1) (eo : EO K L O H1 σ ρ oa) (src : Src K J xs (StB true O H1)) (hf : lcGo2 (el2Of G ρ e p ifs vs it2 p2 ifs2 vs2) xs = some ys) (hp : ∀ i ∈ slots p, i ∈ vs) (hp2 : ∀ i ∈ slots p2, i ∈ vs2) (acc : AccS K (plus O D) D ys A AD) (a0 : A (upd H1 D o0) []) (hd : ∀ Hn, Same H1 Hn → A Hn ys → Qd Hn) :
    ∃ W : Nat → Nat → Hp → Prop, (∃ m, W 0 m (upd H1 D o0)) ∧ ∀ i m H, W i m H → (J.stop i H ∧ Qd H) ∨ (J.go i H ∧ ∃ Nx : Hp → Prop, (∀ H', Nx H' → ∃ m', m' < m ∧ W (i + 1) m' H') ∧ ∀ x H', J.yld i H x H' →
      tP K L p x (L2.wipe σ vs) H' fun σ2 H2 => L2.wipe σ2 vs = L2.wipe σ vs ∧ tIfs K G L ifs σ2 H2 fun b H3 => if b = true then tI K G L false it2 σ2 H3 fun J1 H4 => ∃ W1 : Nat → Nat → Hp → Prop, (∃ m, W1 0 m H4) ∧ ∀ j k H, W1 j k H →
        (J1.stop j H ∧ Nx H) ∨ (J1.go j H ∧ ∃ Nx1 : Hp → Prop, (∀ H', Nx1 H' → ∃ k', k' < k ∧ W1 (j + 1) k' H') ∧ ∀ x H', J1.yld j H x H' → tP K L p2 x (L2.wipe σ2 vs2) H' fun σ3 H5 => L2.wipe σ3 vs2 = L2.wipe σ2 vs2 ∧ tIfs K G L ifs2 σ3 H5 fun b H6 =>
          if b = true then tE K G L false e σ3 H6 (fun y H7 => AD y H7 Nx1) else Nx1 H6)
      else Nx H3) := by
  refine loopG src acc (Go := lcGo2 (el2Of G ρ e p ifs vs it2 p2 ifs2 vs2)) (f := el2Of G ρ e p ifs vs it2 p2 ifs2 vs2) (Hb := H1) (zs := []) (ws := ys) (tl := []) ?_ ?_ (by simp) hf (plus_om om) (same_upd nb) a0 ?_ ?_ ?_
  · intro x xs ws h
    exact lcGo2_cons h
  · intro ws h; cases h; rfl
  · exact fun Hi s t => ⟨hid_new s (plus_new nb), fun _ => s⟩
  · intro Nx x d o Hi zs tl s _ om' a rx e1 e2 nx
    unfold el2Of at e1
    simp only [Option.bind_eq_some_iff] at e1
    obtain ⟨ρ1, f1, c, f2, f3⟩ := e1
    have eo' := eo.hide (O' := plus O D) s (plus_new nb) fun a ha => .inl ha
    refine ⟨plus O D, wipeE ρ vs, oa, d, ρ1, om', eo'.wipe vs, rx, f1, fun σ2 oa2 eo2 sub2 df => ⟨(df.wipe hp).trans (wipe_wipe vs σ), plus O D, ρ1, oa2, c, om', eo2, f2, fun H3 s3 => ?_⟩⟩
    have dom2 : ∀ i a, a ∈ oa2 i → ∃ o, H1 a = some o := fun i a ha => by
      obtain ⟨o, e, _⟩ := om a (eo.own i a (sub2 i a ha))
      exact ⟨o, e⟩
    cases c with
    | false =>
      have f3' : some [] = some o := f3
      cases f3'
      exact nx H3 (s.trans s3) (hid_same s3) (by simpa using acc.keep _ _ _ (fun o e => s3 _ _ e) (hid_same s3) a)
    | true =>
      have f3' : ((evIt G false it2 ρ1).bind fun xs2 => lcGo (elOf G ρ1 e p2 ifs2 vs2) xs2) = some o := f3
      obtain ⟨xs2, g1, g2⟩ := Option.bind_eq_some_iff.mp f3'
      refine ⟨plus O D, ρ1, oa2, xs2, om'.mono s3, eo2.mono s3, g1, fun J1 H4 s4 src1 => ?_⟩
      have s34 := s3.trans s4
      refine loopG src1 acc (Go := lcGo (elOf G ρ1 e p2 ifs2 vs2)) (f := fun x => (elOf G ρ1 e p2 ifs2 vs2 x).map Option.toList) (Hb := H1) (zs := zs) (ws := o) (tl := tl) ?_ ?_ e2 g2 (plus_om om) (s.trans s34) (acc.keep _ _ _ (fun o e => s34 _ _ e) (hid_same s34) a) ?_ ?_ ?_
      · intro x xs ws h
        obtain ⟨o, rest, e1, e2, e3⟩ := lcGo_cons h
        exact ⟨o.toList, rest, by rw [e1]; rfl, e2, e3⟩
      · intro ws h; cases h; rfl
      · exact fun Hi _ t => ⟨t, fun z => by cases z⟩
      · intro Nx1 x1 d1 o1 Hi1 zs1 tl1 t1 th om1 a1 rx1 k1 k2 nx1
        obtain ⟨o', k3, rfl⟩ := Option.map_eq_some_iff.mp k1
        have eo3 : EO K L (plus O D) Hi1 σ2 ρ1 oa2 := by
          refine ⟨eo2.len, ?_, eo2.own, eo2.dis⟩
          have eoB : EO K L (plus O D) H4 σ2 ρ1 oa2 := eo2.mono s34
          exact (EO.at eoB dom2 (s.trans s34) t1 th).ent
        exact bodyG acc nb (.inr rfl) hp2 t1 om1 eo3 a1 rx1 k3 k2 nx1
      · intro Hn t1 t2 a1
        exact nx Hn t1 ((hid_same s34).trans t2) a1
  · intro Hn s t a
    exact hd Hn s (by simpa using a)

variable {X : Cx} {pos : Pos} {elt tg iter tg1 iter1 : Expr} {fs fs1 : List Expr} {scope : Scope} {own : List (Str × Nat)} {it : Xi}
abbrev Blk (X : Cx) (scope : Scope) (R : Cx → Prop) : Prop := ∀ (s : Shared) (H : Hp) (C : Addr) (cl : List (Str × Addr)) (fp : List Addr), R (X.blk s H scope (compEnvC scope cl C X.env) fp)
theorem ts_nil : PTs X [] (tIfs X.K G L .nil) := pts_nil.imp fun σ H Q h => by
  obtain ⟨O, ρ, oa, t, om, eo, e, q⟩ := h
  cases e
  exact q H (Same.refl H)
theorem ts_one {c : Expr} {x : Xp} (h : PT X c (tTst X.K G L x)) : PTs X [c] (tIfs X.K G L (.cons x .nil)) := (pts_one h).imp fun σ H Q h => h
theorem lc_go (hp : ∀ i ∈ slots p, i ∈ vs) {σ : L2.St} {H : Hp} {Q : VK} (h : tE K G L false (.lc e p it ifs vs) σ H Q) : tLc (tI K G L true it) (tP K L p) (tIfs K G L ifs) (tE K G L false e) vs σ H Q := by
  obtain ⟨O, ρ, oa, d, om, eo, ee, q⟩ := h
  simp only [ev, Option.bind_eq_some_iff] at ee
  obtain ⟨xs, ex, ys, ey, ee⟩ := ee
  split at ee
  · rename_i hl
    cases ee
    refine ⟨O, ρ, oa, xs, om, eo, ex, fun J H1 s1 src D nb => ?_⟩
    refine run1 nb (om.mono s1) (eo.mono s1) src ey hp (accL hl (.inr rfl)) ⟨[], upd_same, .nil⟩ fun Hn s a => ?_
    obtain ⟨ac, e1, r⟩ := a
    have nO : ¬ O D := fun z => by
      obtain ⟨o, e, _⟩ := om.mono s1 D z
      rw [nb] at e; cases e
    refine (q.post.mono s1) _ Hn s (.lst (hid_iff.mpr ⟨nO, e1⟩) (r.mono (hid_less fun a ha => .inl ha))) fun _ ds' e2 => ?_
    cases e2
    exact ⟨D, ac, rfl, nb, e1, r⟩
  · cases ee
theorem lc2_go (hp : ∀ i ∈ slots p, i ∈ vs) (hp2 : ∀ i ∈ slots p2, i ∈ vs2) {σ : L2.St} {H : Hp} {Q : VK} (h : tE K G L false (.lc2 e p it ifs p2 it2 ifs2 vs vs2) σ H Q) : tLc2 (tI K G L true it) (tP K L p) (tIfs K G L ifs) (tI K G L false it2) (tP K L p2) (tIfs K G L ifs2) (tE K G L false e) vs vs2 σ H Q := by
  obtain ⟨O, ρ, oa, d, om, eo, ee, q⟩ := h
  simp only [ev, Option.bind_eq_some_iff] at ee
  obtain ⟨xs, ex, ys, ey, ee⟩ := ee
  split at ee
  · rename_i hl
    cases ee
    refine ⟨O, ρ, oa, xs, om, eo, ex, fun J H1 s1 src D nb => ?_⟩
    refine run2 nb (om.mono s1) (eo.mono s1) src ey hp hp2 (accL hl (.inr rfl)) ⟨[], upd_same, .nil⟩ fun Hn s a => ?_
    obtain ⟨ac, e1, r⟩ := a
    have nO : ¬ O D := fun z => by
      obtain ⟨o, e, _⟩ := om.mono s1 D z
      rw [nb] at e; cases e
    refine (q.post.mono s1) _ Hn s (.lst (hid_iff.mpr ⟨nO, e1⟩) (r.mono (hid_less fun a ha => .inl ha))) fun _ ds' e2 => ?_
    cases e2
    exact ⟨D, ac, rfl, nb, e1, r⟩
  · cases ee
theorem e_lc (hc : X.calm = true) (hN : X.N.Nodup) (hi : PI X tg iter (tI X.K G L true it)) (ok : BlkOk X.N X.env.scope scope own) (hp : ∀ i ∈ slots p, i ∈ own.map (·.2)) (hg : Blk X scope fun Y => PG Y tg (tP X.K L p)) (ht : Blk X scope fun Y => PTs Y fs (tIfs X.K G L ifs))
    (he : Blk X scope fun Y => PE Y elt (tE X.K G L false e)) (hs : isSet iter = false) : PE X (.ListComp elt [⟨tg, iter, fs, 0⟩] scope pos) (tE X.K G L false (.lc e p it ifs (own.map (·.2)))) :=
  (pe_lc hc hN hi ok hg ht he (fold_set hs)).imp fun _ _ _ h => lc_go hp h
theorem e_lc2 (hc : X.calm = true) (hN : X.N.Nodup) (hi : PI X tg iter (tI X.K G L true it)) (ok : BlkOk X.N X.env.scope scope own) (hv : ∀ i ∈ vs2, i ∈ own.map (·.2)) (hp : ∀ i ∈ slots p, i ∈ own.map (·.2)) (hp2 : ∀ i ∈ slots p2, i ∈ vs2)
    (hg : Blk X scope fun Y => PG Y tg (tP X.K L p)) (ht : Blk X scope fun Y => PTs Y fs (tIfs X.K G L ifs)) (hi1 : Blk X scope fun Y => PI Y tg1 iter1 (tI X.K G L false it2)) (hg1 : Blk X scope fun Y => PG Y tg1 (tP X.K L p2)) (ht1 : Blk X scope fun Y => PTs Y fs1 (tIfs X.K G L ifs2))
    (he : Blk X scope fun Y => PE Y elt (tE X.K G L false e)) (hs : isSet iter = false) (hs1 : isSet iter1 = false) : PE X (.ListComp elt [⟨tg, iter, fs, 0⟩, ⟨tg1, iter1, fs1, 0⟩] scope pos) (tE X.K G L false (.lc2 e p it ifs p2 it2 ifs2 (own.map (·.2)) vs2)) :=
  (pe_lc2 hc hN hi ok hv hg ht hi1 hg1 ht1 he (fold_set hs) (fun _ => fold_set hs1)).imp fun _ _ _ h => lc2_go hp hp2 h
theorem setI_some {ys : List Pv.D} {d : Pv.D} (h : setI ys = some d) : ∃ is, toInts ys = some is ∧ (dedupI is).length < 64 ∧ d = .list ((sortI (dedupI is)).map .int) := by
  unfold setI at h
  obtain ⟨is, e1, e2⟩ := Option.bind_eq_some_iff.mp h
  split at e2
  · rename_i hl
    cases e2
    exact ⟨is, e1, hl, rfl⟩
  · cases e2
theorem sorted_fin {is : List Int} (hl : (dedupI is).length < 64) {w : World} {Hn : Hp} {Q : VK} (om : OM O Hn) (e1 : Hn D = some (SetO w D (fun j => decide (j ∈ is)) (dedupI is).length)) (q : Post K O Hn true (.list ((sortI (dedupI is)).map .int)) Q) : rSortedSet w [.ref D] Hn Q := by
  refine ⟨D, _, _, rfl, e1, hl, fun ns pp h1 h2 h3 np => ?_⟩
  have : ns = sortI (dedupI is) := sorted_set_eq h1 fun k => by rw [h2 k]; simp
  subst this
  exact q.new om np (Rps.ofInts _)
theorem e_ssc {pf pos2 : Pos} (hc : X.calm = true) (hgs : Gl X "sorted") (hms : X.mg "sorted" = none) (hN : X.N.Nodup) (hi : PI X tg iter (tI X.K G L true it)) (ok : BlkOk X.N X.env.scope scope own) (hp : ∀ i ∈ slots p, i ∈ own.map (·.2)) (hg : Blk X scope fun Y => PG Y tg (tP X.K L p)) (ht : Blk X scope fun Y => PTs Y fs (tIfs X.K G L ifs))
    (he : Blk X scope fun Y => PE Y elt (tE X.K G L false e)) (hs : isSet iter = false) : PE X (.Call (.Name "sorted" pf) [.SetComp elt [⟨tg, iter, fs, 0⟩] scope pos] [] pos2) (tE X.K G L false (.ssc e p it ifs (own.map (·.2)))) :=
  (pe_callB (cr_sortedSet hc) hgs hms boot_sorted (pa_cons (pe_set1 hc hN hi ok hg ht he (fold_set hs)) pa_nil)).imp fun σ H Q h => by
  obtain ⟨O, ρ, oa, d, om, eo, ee, q⟩ := h
  simp only [ev, Option.bind_eq_some_iff] at ee
  obtain ⟨xs, ex, ys, ey, ee⟩ := ee
  split at ee
  · rename_i hl
    obtain ⟨is, hi', hl', rfl⟩ := setI_some ee
    refine ⟨O, ρ, oa, xs, om, eo, ex, fun J H1 s1 src D nb => ?_⟩
    refine run1 nb (om.mono s1) (eo.mono s1) src ey hp (accS (w := X.w) hi' hl (.inr rfl)) ⟨[], rfl, upd_same⟩ fun Hn s a => ?_
    obtain ⟨js, e0, e1⟩ := a
    rw [hi'] at e0
    cases e0
    exact sorted_fin hl' (om.mono (s1.trans s)) e1 (q.post.mono (s1.trans s))
  · cases ee
theorem e_ssc2 {pf pos2 : Pos} (hc : X.calm = true) (hgs : Gl X "sorted") (hms : X.mg "sorted" = none) (hN : X.N.Nodup) (hi : PI X tg iter (tI X.K G L true it)) (ok : BlkOk X.N X.env.scope scope own) (hv : ∀ i ∈ vs2, i ∈ own.map (·.2)) (hp : ∀ i ∈ slots p, i ∈ own.map (·.2)) (hp2 : ∀ i ∈ slots p2, i ∈ vs2)
    (hg : Blk X scope fun Y => PG Y tg (tP X.K L p)) (ht : Blk X scope fun Y => PTs Y fs (tIfs X.K G L ifs)) (hi1 : Blk X scope fun Y => PI Y tg1 iter1 (tI X.K G L false it2)) (hg1 : Blk X scope fun Y => PG Y tg1 (tP X.K L p2)) (ht1 : Blk X scope fun Y => PTs Y fs1 (tIfs X.K G L ifs2))
    (he : Blk X scope fun Y => PE Y elt (tE X.K G L false e)) (hs : isSet iter = false) (hs1 : isSet iter1 = false) : PE X (.Call (.Name "sorted" pf) [.SetComp elt [⟨tg, iter, fs, 0⟩, ⟨tg1, iter1, fs1, 0⟩] scope pos] [] pos2) (tE X.K G L false (.ssc2 e p it ifs p2 it2 ifs2 (own.map (·.2)) vs2)) :=
  (pe_callB (cr_sortedSet hc) hgs hms boot_sorted (pa_cons (pe_set2 hc hN hi ok hv hg ht hi1 hg1 ht1 he (fold_set hs) (fun _ => fold_set hs1)) pa_nil)).imp fun σ H Q h => by
  obtain ⟨O, ρ, oa, d, om, eo, ee, q⟩ := h
  simp only [ev, Option.bind_eq_some_iff] at ee
  obtain ⟨xs, ex, ys, ey, ee⟩ := ee
  split at ee
  · rename_i hl
    obtain ⟨is, hi', hl', rfl⟩ := setI_some ee
    refine ⟨O, ρ, oa, xs, om, eo, ex, fun J H1 s1 src D nb => ?_⟩
    refine run2 nb (om.mono s1) (eo.mono s1) src ey hp hp2 (accS (w := X.w) hi' hl (.inr rfl)) ⟨[], rfl, upd_same⟩ fun Hn s a => ?_
    obtain ⟨js, e0, e1⟩ := a
    rw [hi'] at e0
    cases e0
    exact sorted_fin hl' (om.mono (s1.trans s)) e1 (q.post.mono (s1.trans s))
  · cases ee
end
end Pv

set_option Elab.async false
set_option linter.all false
set_option maxRecDepth 100000
set_option maxHeartbeats 1000000
/-! set(a list of ints): sorted, its size. -/
namespace Pv
open PySem PySem.Spec PyProof.Rows L2

theorem setR_count {w : World} {h : Heap} {a : Addr} {ns : List Int} {c : Nat} (R : SetR w h a (fun j => decide (j ∈ ns)) c) : c = (dedupI ns).length := by
  obtain ⟨o, es, ep, t, ho, hx, hd, hg, nd, hm, hb, hf, hn, _⟩ := R
  rw [← hn, ← Array.length_toList, show es.toList.length = (es.toList.map L2.keyOf).length by simp]
  refine List.Perm.length_eq ((List.perm_ext_iff_of_nodup nd (dedupI_nodup _)).mpr fun k => ?_)
  rw [dedupI_mem, ← hm k, decide_eq_true_eq]
section
variable {X : Cx} {G : Cfg} {L : Nat} {pos p p2 p3 : Pos} {a : Expr} {x : Xp}
def tSetL (K : PySem.W.Frag) (w : World) (ta : TE) : TE := fun σ H Q => ta σ H fun v H1 => ∃ (l : Addr) (ns : List Int), v = V.ref l ∧ SqL K H1 l (ns.map V.int) ∧ ns.length < 1000 ∧ ∀ q, H1 q = none → Q (.ref q) (upd H1 q (SetO w q (fun j => decide (j ∈ ns)) (dedupI ns).length))
theorem pe_setL {ta : TE} (hc : X.calm = true) (hg : Gl X "set") (hm : X.mg "set" = none) (ha : PE X a ta) (hs : isStar a = false) : PE X (.Call (.Name "set" p) [a] [] pos) (tSetL X.K X.w ta) := by
  refine ⟨fun pins s σ H Q I h => ?_⟩
  have na : starEach [a] X.env = (false, eval a X.env) :: starEach [] X.env := star_cons hs
  refine Call_ (ld_blt I hg hm boot_set ?_)
  refine PyProof.Rows.callWith_type1 (PyProof.Rows.args_cons (thn (ha.run pins s σ H _ I h) fun v s1 ⟨x, H1, I1, r1, q1⟩ => PyProof.Rows.args_nil ?_) na) na rfl
  obtain ⟨l, ns, rfl, hq, hl, q1⟩ := q1
  cases r1
  obtain ⟨its, r, pl, hz⟩ := I1.list hq
  refine set_of_list ns (I1.ok.hd hc) pl.isList (by simpa using intsAre_of r) (by unfold scanBound; omega) fun h' tk c hS hc' hk => ?_
  have ec := setR_count hS
  subst ec
  exact ⟨.ref s1.heap.objs.size, _, I1.laid (t' := tk) hk (Nat.le_refl _) (setO_new hS), rfl, q1 _ (I1.hok.fresh (Nat.le_refl _))⟩
theorem set_go {σ : L2.St} {H : Hp} {d : Pv.D} {Q : VK} {R : Pv.D → Prop} (h : ∃ O ρ oa, OM O H ∧ EO X.K L O H σ ρ oa ∧ ((ev G true x ρ).bind fun d => match d with
    | .list xs => if xs.length < 1000 then (toInts xs) else none
    | _ => none) = some is ∧ ∀ H1, Same H H1 → ∀ q, H1 q = none → Q (.ref q) (upd H1 q (SetO X.w q (fun j => decide (j ∈ is)) (dedupI is).length))) : tSetL X.K X.w (tE X.K G L true x) σ H Q := by
  obtain ⟨O, ρ, oa, om, eo, e, q⟩ := h
  obtain ⟨d, ed, e⟩ := Option.bind_eq_some_iff.mp e
  split at e
  · rename_i xs
    split at e
    · rename_i hl
      refine ⟨O, ρ, oa, _, om, eo, ed, fun v H1 s1 r1 => ?_⟩
      obtain ⟨l, vs, rfl, h1, r⟩ := r1.lst
      obtain ⟨e1, e2⟩ := r.ints e
      subst e1
      exact ⟨l, is, rfl, SqL.of h1, by rw [toInts_len e]; exact hl, q H1 s1⟩
    · cases e
  · cases e
theorem e_sst (hc : X.calm = true) (hg : Gl X "sorted") (hm : X.mg "sorted" = none) (hg2 : Gl X "set") (hm2 : X.mg "set" = none) (ha : PE X a (tE X.K G L true x)) (hs : isStar a = false) :
    PE X (.Call (.Name "sorted" p) [.Call (.Name "set" p2) [a] [] p3] [] pos) (tE X.K G L false (.sst x)) :=
  (pe_callB (cr_sortedSet hc) hg hm boot_sorted (pa_cons (pe_setL hc hg2 hm2 ha hs) pa_nil)).imp fun σ H Q h => by
  obtain ⟨O, ρ, oa, d, om, eo, e, q⟩ := h
  simp only [ev, Option.bind_eq_some_iff] at e
  obtain ⟨dx, ex, e⟩ := e
  split at e
  · rename_i xs
    split at e
    · rename_i hl
      obtain ⟨is, hi', hl', rfl⟩ := setI_some e
      show tSetL X.K X.w (tE X.K G L true x) σ H fun v H1 => rSortedSet X.w [v] H1 Q
      refine set_go (d := .none) (R := fun _ => True) (is := is) ⟨O, ρ, oa, om, eo, by rw [ex]; simp [hl, hi'], fun H1 s1 D nb => ?_⟩
      have s2 := s1.trans (same_upd (o := SetO X.w D (fun j => decide (j ∈ is)) (dedupI is).length) nb)
      exact sorted_fin hl' (om.mono s2) upd_same (q.post.mono s2)
    · cases e
  · cases e
theorem c_lenSet : CallR X (.builtin "len") (fun xs H Q => ∃ a S n, xs = [V.ref a] ∧ H a = some (SetO X.w a S n) ∧ Q (.int (n : Nat)) H) := by
  intro pins s σ H xs us Q I r h
  obtain ⟨a, S, n, rfl, ha, q⟩ := h
  have R := setO_get I ha
  rw [Vals.ref1 r]
  obtain ⟨o, es, ep, t, ho, hx, hd, hg, nd, hm, hb, hf, hn, _⟩ := R
  exact PySem.call_len_set ho hx hd hf (by rw [hn]; unfold scanBound at hb; omega) ⟨.int n, H, I.tok _, ⟨_, by rw [hn]⟩, q⟩
theorem e_lset (hc : X.calm = true) (hg : Gl X "len") (hm : X.mg "len" = none) (hg2 : Gl X "set") (hm2 : X.mg "set" = none) (ha : PE X a (tE X.K G L true x)) (hs : isStar a = false) :
    PE X (.Call (.Name "len" p) [.Call (.Name "set" p2) [a] [] p3] [] pos) (tE X.K G L false (.lset x)) :=
  (pe_callB c_lenSet hg hm boot_len (pa_cons (pe_setL hc hg2 hm2 ha hs) pa_nil)).imp fun σ H Q h => by
  obtain ⟨O, ρ, oa, d, om, eo, e, q⟩ := h
  simp only [ev, Option.bind_eq_some_iff] at e
  obtain ⟨dx, ex, e⟩ := e
  split at e
  · rename_i xs
    split at e
    · rename_i hl
      obtain ⟨is, hi', rfl⟩ := Option.map_eq_some_iff.mp e
      show tSetL X.K X.w (tE X.K G L true x) σ H fun v H1 => ∃ a S n, [v] = [V.ref a] ∧ H1 a = some (SetO X.w a S n) ∧ Q (.int (n : Nat)) H1
      refine set_go (d := .none) (R := fun _ => True) (is := is) ⟨O, ρ, oa, om, eo, by rw [ex]; simp [hl, hi'], fun H1 s1 D nb => ?_⟩
      have s2 := s1.trans (same_upd (o := SetO X.w D (fun j => decide (j ∈ is)) (dedupI is).length) nb)
      exact ⟨D, _, _, rfl, upd_same, (q.post.mono s2).here (.int _) ni⟩
    · cases e
  · cases e
theorem KD.keys {κ : Type} {K : PySem.W.Frag} {F : Hp} {ws : List (κ × V)} {kvs : List (κ × Pv.D)} (h : KD K F ws kvs) : ws.map (·.1) = kvs.map (·.1) := by
  induction h with
  | nil => rfl
  | cons p _ ih => rw [List.map_cons, List.map_cons, ih, p.1]
theorem cr_sortedDT (hc : X.calm = true) (hu : X.A.units + 65 < cLine) : CallR X (.builtin "sorted") (fun xs H Q => ∃ (O : Addr → Prop) (d : Addr) (kvs : List (List Key × V)) (ls : List (List Int)), xs = [V.ref d] ∧ OM O H ∧ H d = some (.dT kvs) ∧ kvs.map (·.1) = ls.map (fun l => l.map Sum.inl) ∧ (∀ l ∈ ls, l ≠ []) ∧
    ∀ q ws, H q = none → Rps X.K (hid O H) ws ((sortL ls).map (encR true)) → Q (.ref q) (upd H q (.lst ws))) := by
  intro pins s σ H xs us Q I r h
  obtain ⟨O, d, kvs, ls, rfl, om, hd, hk, hne, q⟩ := h
  rw [Vals.ref1 r]
  exact c_sortedDT hc hu I om hd hk hne q
theorem e_skeys {i : Nat} {y : Str} (hc : X.calm = true) (hu : X.A.units + 65 < cLine) (hg : Gl X "sorted") (hm : X.mg "sorted" = none) (hN : X.N[i]? = some y) (hv : Vis X.env.scope y) (hd : (y == ("__debug__" : Str)) = false) (hcd : (y == ("__classdict__" : Str)) = false) :
    PE X (.Call (.Name "sorted" p) [.Name y p2] [] pos) (tE X.K G L false (.skeys i)) :=
  (pe_callB (cr_sortedDT hc hu) hg hm boot_sorted (pa_cons (pe_var hN hv hd hcd) pa_nil)).imp fun σ H Q h => by
  obtain ⟨O, ρ, oa, d, om, eo, e, q⟩ := h
  simp only [ev] at e
  split at e
  · rename_i kvs hρ
    obtain ⟨ks, e1, e2⟩ := Option.bind_eq_some_iff.mp e
    split at e2
    · rename_i hne
      cases e2
      have ent := eo.ent i
      rw [hρ] at ent
      obtain ⟨a, ws, k1, k2, k3, k4⟩ := ent
      refine ⟨_, at'_some k1, O, a, ws, ks, rfl, om, k3, ?_, fun l hl => ?_, fun q' ws' nq rr => q.post.new om nq rr⟩
      · rw [k4.keys]
        exact keysInts_enc e1
      · have := List.all_eq_true.mp hne l hl
        intro z
        subst z
        cases this
    · cases e2
  · cases e
end
end Pv

set_option Elab.async false
set_option linter.all false
set_option maxRecDepth 100000
set_option maxHeartbeats 1000000
/-! The checker of expressions and its soundness. -/
namespace Pv
open PySem PySem.Spec PyProof.Rows L2

structure CE where
  N : List Str
  sc : Scope
  fn : Str → Bool
/-- what the text has: defs, constants, gcd -/
structure Sg where
  fs : List Str
  gl : List (Str × Int)
  gcd : Bool
def nmOk (c : CE) (i : Nat) (x : Str) : Bool := decide (c.N[i]? = some x)
def visOk (c : CE) (x : Str) : Bool := match c.sc.names.lookup x with
  | some .local => true
  | some .cell => true
  | some .free => true
  | _ => false
def glOk (c : CE) (x : Str) : Bool := decide (c.sc.names.lookup x = some .globalImplicit)
def locOk (c : CE) (x : Str) : Bool := match c.sc.names.lookup x with
  | some .local => true
  | some .cell => c.fn x
  | _ => false
def noDbg (x : Str) : Bool := !(x == ("__debug__" : Str)) && !(x == ("__classdict__" : Str))
def blkCE (c : CE) (scope : Scope) : CE := ⟨c.N, relS scope c.sc, fun x => scope.names.lookup x == some .cell⟩
def ownP (N : List Str) (own : List Nat) : List (Str × Nat) := own.map fun i => ((N[i]?).getD "", i)
theorem ownP_snd (N : List Str) (own : List Nat) : (ownP N own).map (·.2) = own := by
  unfold ownP
  rw [List.map_map]
  exact List.map_id' own
def subN (a b : List Nat) : Bool := a.all fun i => decide (i ∈ b)
theorem subN_iff {a b : List Nat} (h : subN a b = true) : ∀ i ∈ a, i ∈ b := fun i hi => of_decide_eq_true (List.all_eq_true.mp h i hi)
mutual
def chkP (c : CE) : Pat → Expr → Bool
  | .nm i, ex => match ex with
    | .Name x _ => nmOk c i x && locOk c x
    | _ => false
  | .tp ps, ex => match ex with
    | .Tuple es _ _ => chkPs c ps es
    | _ => false
def chkPs (c : CE) : Pats → List Expr → Bool
  | .nil, es => match es with
    | [] => true
    | _ => false
  | .cons p ps, es => match es with
    | e :: es => !isStar e && chkP c p e && chkPs c ps es
    | _ => false
end
def isTup : Expr → Bool
  | .Tuple .. => true
  | _ => false
/-! may it be a test -/
mutual
def tt : Xp → Bool
  | .ife .. => false
  | .not x => tt x
  | .bool _ es => tts es
  | _ => true
def tts : Xps → Bool
  | .nil => true
  | .cons e es => tt e && tts es
end
def bns : List Str := ["len", "abs", "int", "min", "max", "list", "all", "any", "sum", "sorted", "range", "enumerate", "zip", "set"]

mutual
def chk (S : Sg) : Xp → CE → Expr → Bool
  | .var i, c, ex => match ex with
    | .Name x _ => nmOk c i x && visOk c x && noDbg x
    | _ => false
  | .con k, _, ex => conE k ex
  | .glb x i, c, ex => match ex with
    | .Name y _ => decide (x = y) && glOk c x && decide ((x, i) ∈ S.gl) && noDbg x
    | _ => false
  | .op o x y, c, ex => match ex with
    | .BinOp a k b _ => decide (bop o = some k) && chk S x c a && chk S y c b
    | .Compare a [k] [b] _ => decide (cop o = some k) && chk S x c a && chk S y c b && !isSet b
    | _ => false
  | .ch o o2 x y z, c, ex => match ex with
    | .Compare a [k, k2] [b, d] _ => decide (cop o = some k) && decide (cop o2 = some k2) && chk S x c a && chk S y c b && chk S z c d && !isSet d
    | _ => false
  | .ch3 o o2 o3 x y z u, c, ex => match ex with
    | .Compare a [k, k2, k3] [b, d, f] _ => decide (cop o = some k) && decide (cop o2 = some k2) && decide (cop o3 = some k3) && chk S x c a && chk S y c b && chk S z c d && chk S u c f && !isSet f
    | _ => false
  | .neg x, c, ex => match ex with
    | .UnaryOp .USub a _ => chk S x c a
    | _ => false
  | .not x, c, ex => match ex with
    | .UnaryOp .Not a _ => chk S x c a
    | _ => false
  | .bool k es, c, ex => match ex with
    | .BoolOp o vs _ => decide (o = bO k) && !vs.isEmpty && chks S es c vs
    | _ => false
  | .ife x y z, c, ex => match ex with
    | .IfExp a b d _ => tt x && chk S x c a && chk S y c b && chk S z c d
    | _ => false
  | .tup es, c, ex => match ex with
    | .Tuple vs _ _ => chks S es c vs
    | _ => false
  | .lst es, c, ex => match ex with
    | .List vs _ => chks S es c vs
    | _ => false
  | .idx x i, c, ex => match ex with
    | .Subscript a b _ => !isSlice b && chk S x c a && chk S i c b
    | _ => false
  | .cut x lo hi, c, ex => match ex with
    | .Subscript a (.Slice l h none _) _ => chk S x c a && chkO S lo c l && chkO S hi c h
    | _ => false
  | .rev x, c, ex => match ex with
    | .Subscript a (.Slice none none (some (.UnaryOp .USub (.Constant (.int j) _ _) _)) _) _ => decide (j = 1) && chk S x c a
    | _ => false
  | .bi f es, c, ex => match ex with
    | .Call (.Name n _) (a :: as) [] _ => decide (n = biN f) && glOk c n && (S.gcd || !decide (f = .gcd)) && chks S es c (a :: as)
    | _ => false
  | .call f es, c, ex => match ex with
    | .Call (.Name n _) as [] _ => decide (n = f) && decide (n ∈ S.fs) && glOk c n && noDbg n && chks S es c as
    | _ => false
  | .callB f es, c, ex => match ex with
    | .Call (.Name n _) (a :: as) [] _ => decide (n = f) && decide (n ∈ S.fs) && glOk c n && noDbg n && chks S es c (a :: as)
    | _ => false
  | .lc e p it ifs own, c, ex => match ex with
    | .ListComp elt [g] scope _ => decide (g.is_async = 0) && blkC c.N c.sc scope (ownP c.N own) && subN (slots p) own && chkI S it c g.target g.iter && !isSet g.iter && chkP (blkCE c scope) p g.target && chkF S ifs (blkCE c scope) g.ifs && chk S e (blkCE c scope) elt
    | _ => false
  | .lc2 e p it ifs p2 it2 ifs2 own own2, c, ex => match ex with
    | .ListComp elt [g, g2] scope _ => decide (g.is_async = 0) && decide (g2.is_async = 0) && blkC c.N c.sc scope (ownP c.N own) && subN (slots p) own && subN (slots p2) own2 && subN own2 own && chkI S it c g.target g.iter && !isSet g.iter && chkP (blkCE c scope) p g.target && chkF S ifs (blkCE c scope) g.ifs &&
      chkI S it2 (blkCE c scope) g2.target g2.iter && !isSet g2.iter && chkP (blkCE c scope) p2 g2.target && chkF S ifs2 (blkCE c scope) g2.ifs && chk S e (blkCE c scope) elt
    | _ => false
  | .lrng es, c, ex => match ex with
    | .Call (.Name n _) [.Call (.Name n2 _) as [] _] [] _ => decide (n = "list") && decide (n2 = "range") && glOk c n && glOk c n2 && chkR S es c as
    | _ => false
  | .ssc e p it ifs own, c, ex => match ex with
    | .Call (.Name n _) [.SetComp elt [g] scope _] [] _ => decide (n = "sorted") && glOk c n && decide (g.is_async = 0) && blkC c.N c.sc scope (ownP c.N own) && subN (slots p) own && chkI S it c g.target g.iter && !isSet g.iter && chkP (blkCE c scope) p g.target && chkF S ifs (blkCE c scope) g.ifs && chk S e (blkCE c scope) elt
    | _ => false
  | .ssc2 e p it ifs p2 it2 ifs2 own own2, c, ex => match ex with
    | .Call (.Name n _) [.SetComp elt [g, g2] scope _] [] _ => decide (n = "sorted") && glOk c n && decide (g.is_async = 0) && decide (g2.is_async = 0) && blkC c.N c.sc scope (ownP c.N own) && subN (slots p) own && subN (slots p2) own2 && subN own2 own && chkI S it c g.target g.iter && !isSet g.iter && chkP (blkCE c scope) p g.target && chkF S ifs (blkCE c scope) g.ifs &&
      chkI S it2 (blkCE c scope) g2.target g2.iter && !isSet g2.iter && chkP (blkCE c scope) p2 g2.target && chkF S ifs2 (blkCE c scope) g2.ifs && chk S e (blkCE c scope) elt
    | _ => false
  | .sst x, c, ex => match ex with
    | .Call (.Name n _) [.Call (.Name n2 _) [a] [] _] [] _ => decide (n = "sorted") && decide (n2 = "set") && glOk c n && glOk c n2 && !isStar a && chk S x c a
    | _ => false
  | .lset x, c, ex => match ex with
    | .Call (.Name n _) [.Call (.Name n2 _) [a] [] _] [] _ => decide (n = "len") && decide (n2 = "set") && glOk c n && glOk c n2 && !isStar a && chk S x c a
    | _ => false
  | .skeys i, c, ex => match ex with
    | .Call (.Name n _) [.Name y _] [] _ => decide (n = "sorted") && glOk c n && nmOk c i y && visOk c y && noDbg y
    | _ => false
def chks (S : Sg) : Xps → CE → List Expr → Bool
  | .nil, _, es => match es with
    | [] => true
    | _ => false
  | .cons x xs, c, es => match es with
    | e :: es => !isStar e && chk S x c e && chks S xs c es
    | _ => false
def chkF (S : Sg) : Xps → CE → List Expr → Bool
  | .nil, _, es => match es with
    | [] => true
    | _ => false
  | .cons x .nil, c, es => match es with
    | [e] => tt x && chk S x c e
    | _ => false
  | .cons _ (.cons _ _), _, _ => false
/-- one or two -/
def chkR (S : Sg) : Xps → CE → List Expr → Bool
  | .nil, _, _ => false
  | .cons x .nil, c, es => match es with
    | [e] => !isStar e && chk S x c e
    | _ => false
  | .cons x (.cons y .nil), c, es => match es with
    | [e, f] => !isStar e && !isStar f && chk S x c e && chk S y c f
    | _ => false
  | .cons _ (.cons _ (.cons _ _)), _, _ => false
def chkO (S : Sg) : Option Xp → CE → Option Expr → Bool
  | none, _, o => match o with
    | none => true
    | _ => false
  | some x, c, o => match o with
    | some e => chk S x c e
    | _ => false
def chkI (S : Sg) : Xi → CE → Expr → Expr → Bool
  | .seq x, c, _, it => chk S x c it
  | .rng es, c, _, it => match it with
    | .Call (.Name n _) as [] _ => decide (n = "range") && glOk c n && chkR S es c as
    | _ => false
  | .enum x, c, tg, it => match it with
    | .Call (.Name n _) [a] [] _ => decide (n = "enumerate") && glOk c n && isTup tg && !isStar a && chk S x c a
    | _ => false
  | .zip x y, c, tg, it => match it with
    | .Call (.Name n _) [a, b] [] _ => decide (n = "zip") && glOk c n && isTup tg && !isStar a && !isStar b && chk S x c a && chk S y c b
    | _ => false
end

structure Ctx (S : Sg) (G : Cfg) (c : CE) (X : Cx) : Prop where
  calm : X.calm = true
  N : X.N = c.N
  sc : X.env.scope = c.sc
  fn : X.fn = c.fn
  nd : X.N.Nodup
  hu : X.A.units + 65 < cLine
  bn : ∀ n ∈ bns, X.mg n = none
  gcd : S.gcd = true → X.mg "gcd" = some (.builtin "math.gcd")
  gl : ∀ p ∈ S.gl, ∃ t, X.mg p.1 = some (.int p.2 t)
  fs : ∀ n ∈ S.fs, FnC G X n
section
variable {S : Sg} {G : Cfg} {c : CE} {X : Cx}
theorem Ctx.blk {scope : Scope} (h : Ctx S G c X) : Blk X scope fun Y => Ctx S G (blkCE c scope) Y := fun s H C cl fp =>
  ⟨h.calm, h.N, by show relS scope X.env.scope = _; rw [h.sc]; rfl, rfl, h.nd, h.hu, h.bn, h.gcd, h.gl, h.fs⟩
theorem Ctx.vis {x : Str} (h : Ctx S G c X) (v : visOk c x = true) : Vis X.env.scope x := by
  unfold visOk at v
  rw [← h.sc] at v
  split at v <;> first
    | exact .inl (by assumption)
    | exact .inr (.inl (by assumption))
    | exact .inr (.inr (by assumption))
    | cases v
theorem Ctx.gb {x : Str} (h : Ctx S G c X) (v : glOk c x = true) : Gl X x := by
  unfold glOk at v
  rw [← h.sc] at v
  have q : X.env.scope.names.lookup x = some .globalImplicit := of_decide_eq_true v
  exact q
theorem Ctx.at {x : Str} {i : Nat} (h : Ctx S G c X) (v : nmOk c i x = true) : X.N[i]? = some x := by
  unfold nmOk at v
  rw [← h.N] at v
  exact of_decide_eq_true v
theorem Ctx.loc {x : Str} (h : Ctx S G c X) (v : locOk c x = true) : Loc X.env.scope x ∧ (X.fn x = true ∨ X.env.scope.names.lookup x = some .local) := by
  unfold locOk at v
  rw [← h.sc, ← h.fn] at v
  split at v <;> first
    | exact ⟨.inl (by assumption), .inr (by assumption)⟩
    | exact ⟨.inr (by assumption), .inl v⟩
    | cases v
theorem not_tt {b : Bool} (h : (!b) = true) : b = false := by cases b <;> first | rfl | cases h
theorem dbg1 {x : Str} (h : noDbg x = true) : (x == ("__debug__" : Str)) = false := by
  unfold noDbg at h
  rw [Bool.and_eq_true] at h
  exact not_tt h.1
theorem dbg2 {x : Str} (h : noDbg x = true) : (x == ("__classdict__" : Str)) = false := by
  unfold noDbg at h
  rw [Bool.and_eq_true] at h
  exact not_tt h.2
theorem Ctx.blkOk {scope : Scope} {own : List Nat} (h : Ctx S G c X) (v : blkC c.N c.sc scope (ownP c.N own) = true) : BlkOk X.N X.env.scope scope (ownP c.N own) := by
  rw [h.N, h.sc]
  exact blkOk_by v
mutual
theorem ok_p (h : Ctx S G c X) : ∀ (p : Pat) (ex : Expr), chkP c p ex = true → PG X ex (tP X.K X.N.length p)
  | .nm i, ex, v => by
    simp only [chkP] at v
    split at v
    · rw [Bool.and_eq_true] at v
      exact g_nm rfl h.nd (h.at v.1) (h.loc v.2).1 (h.loc v.2).2
    · cases v
  | .tp ps, ex, v => by
    simp only [chkP] at v
    split at v
    · obtain ⟨h1, h2, h3⟩ := ok_ps h ps _ v
      exact g_tup h.calm h1 h2 h3
    · cases v
theorem ok_ps (h : Ctx S G c X) : ∀ (ps : Pats) (es : List Expr), chkPs c ps es = true → PGs X es (tPs X.K X.N.length ps) ∧ (es.all fun e => !isStar e) = true ∧ plen ps = es.length
  | .nil, es, v => by
    simp only [chkPs] at v
    split at v
    · exact ⟨gs_nil, rfl, rfl⟩
    · cases v
  | .cons p ps, es, v => by
    simp only [chkPs] at v
    split at v
    · rw [Bool.and_eq_true, Bool.and_eq_true] at v
      obtain ⟨h1, h2, h3⟩ := ok_ps h ps _ v.2
      have hs := v.1.1
      refine ⟨gs_cons (ok_p h p _ v.1.2) h1 (by simpa using hs), ?_, ?_⟩
      · rw [List.all_cons, h2, hs]; rfl
      · rw [List.length_cons, ← h3]; rfl
    · cases v
end
end
end Pv

set_option Elab.async false
set_option linter.all false
set_option maxRecDepth 100000
set_option maxHeartbeats 4000000
namespace Pv
open PySem PySem.Spec PyProof.Rows L2

def IsV : Xp → Bool
  | .var _ => true
  | _ => false
theorem both {X : Cx} {G : Cfg} {ex : Expr} {e : Xp} {L : Nat} (h : PE X ex (tE X.K G L false e)) (n : IsV e = false := by rfl) : ∀ b, PE X ex (tE X.K G L b e)
  | false => h
  | true => h.lift fun i z => by subst z; cases n
theorem leaf {X : Cx} {G : Cfg} {ex : Expr} {e : Xp} {L : Nat} (h : PE X ex (tE X.K G L false e)) (n : IsV e = false := by rfl) (t : isTest ex = false := by rfl) : (∀ b, PE X ex (tE X.K G L b e)) ∧ (tt e = true → PT X ex (tTst X.K G L e)) :=
  ⟨both h n, fun _ => t_val h t⟩
theorem nset {e : Expr} (h : (!isSet e) = true) : isSet e = false := not_tt h
variable (S : Sg) (G : Cfg)
mutual
theorem ok_e : ∀ (e : Xp) (c : CE) (X : Cx) (ex : Expr), Ctx S G c X → chk S e c ex = true → (∀ b, PE X ex (tE X.K G X.N.length b e)) ∧ (tt e = true → PT X ex (tTst X.K G X.N.length e))
  | .var i, c, X, ex, h, v => by
    simp only [chk] at v
    split at v
    · rename_i x pos
      rw [Bool.and_eq_true, Bool.and_eq_true] at v
      have q : ∀ b, PE X (.Name x pos) (tE X.K G X.N.length b (.var i)) := fun b => e_var (h.at v.1.1) (h.vis v.1.2) (dbg1 v.2) (dbg2 v.2)
      exact ⟨q, fun _ => t_val (q false) rfl⟩
    · cases v
  | .con k, c, X, ex, h, v => by
    simp only [chk] at v
    refine leaf (e_con v) rfl ?_
    cases k <;> cases ex <;> first | (cases v; done) | rfl
  | .glb x i, c, X, ex, h, v => by
    simp only [chk] at v
    split at v
    · simp only [Bool.and_eq_true, decide_eq_true_eq] at v
      obtain ⟨⟨⟨rfl, h1⟩, h2⟩, h3⟩ := v
      obtain ⟨t, ht⟩ := h.gl _ h2
      exact leaf (e_glb (h.gb h1) ht (dbg1 h3))
    · cases v
  | .op o x y, c, X, ex, h, v => by
    simp only [chk] at v
    split at v
    · simp only [Bool.and_eq_true, decide_eq_true_eq] at v
      exact leaf (e_bin v.1.1 ((ok_e x c X _ h v.1.2).1 true) ((ok_e y c X _ h v.2).1 true))
    · simp only [Bool.and_eq_true, decide_eq_true_eq] at v
      have h1 := (ok_e x c X _ h v.1.1.2).1 true
      have h2 := (ok_e y c X _ h v.1.2).1 true
      exact ⟨both (e_cmp h.hu v.1.1.1 h1 h2 (nset v.2)), fun _ => t_cmp h.hu v.1.1.1 h1 h2 (nset v.2)⟩
    · cases v
  | .ch o o2 x y z, c, X, ex, h, v => by
    simp only [chk] at v
    split at v
    · rename_i pos
      simp only [Bool.and_eq_true, decide_eq_true_eq] at v
      obtain ⟨⟨⟨⟨⟨v1, v2⟩, v3⟩, v4⟩, v5⟩, v6⟩ := v
      have q := e_ch (pos := pos) h.hu v1 v2 ((ok_e x c X _ h v3).1 true) ((ok_e y c X _ h v4).1 true) ((ok_e z c X _ h v5).1 true) (nset v6)
      exact ⟨both q.1, fun _ => q.2⟩
    · cases v
  | .ch3 o o2 o3 x y z u, c, X, ex, h, v => by
    simp only [chk] at v
    split at v
    · rename_i pos
      simp only [Bool.and_eq_true, decide_eq_true_eq] at v
      obtain ⟨⟨⟨⟨⟨⟨⟨v1, v2⟩, v3⟩, v4⟩, v5⟩, v6⟩, v7⟩, v8⟩ := v
      have q := e_ch3 (pos := pos) h.hu v1 v2 v3 ((ok_e x c X _ h v4).1 true) ((ok_e y c X _ h v5).1 true) ((ok_e z c X _ h v6).1 true) ((ok_e u c X _ h v7).1 true) (nset v8)
      exact ⟨both q.1, fun _ => q.2⟩
    · cases v
  | .neg x, c, X, ex, h, v => by
    simp only [chk] at v
    split at v
    · exact leaf (e_neg ((ok_e x c X _ h v).1 false))
    · cases v
  | .not x, c, X, ex, h, v => by
    simp only [chk] at v
    split at v
    · have q := ok_e x c X _ h v
      exact ⟨both (e_not (q.1 false)), fun z => t_not (q.2 z)⟩
    · cases v
  | .bool k es, c, X, ex, h, v => by
    simp only [chk] at v
    split at v
    · simp only [Bool.and_eq_true, decide_eq_true_eq] at v
      obtain ⟨⟨rfl, v1⟩, v2⟩ := v
      have q := (ok_es es c X _ h v2).2.2 k (by intro z; subst z; cases v1)
      exact ⟨both (e_bool (q _).1), fun z => t_bool ((q _).2 z)⟩
    · cases v
  | .ife x y z, c, X, ex, h, v => by
    simp only [chk] at v
    split at v
    · simp only [Bool.and_eq_true] at v
      obtain ⟨⟨⟨v1, v2⟩, v3⟩, v4⟩ := v
      exact ⟨both (e_ife ((ok_e x c X _ h v2).2 v1) ((ok_e y c X _ h v3).1 false) ((ok_e z c X _ h v4).1 false)), fun z => by cases z⟩
    · cases v
  | .tup es, c, X, ex, h, v => by
    simp only [chk] at v
    split at v
    · exact leaf (e_tup ((ok_es es c X _ h v).1 false))
    · cases v
  | .lst es, c, X, ex, h, v => by
    simp only [chk] at v
    split at v
    · exact leaf (e_lst ((ok_es es c X _ h v).1 false))
    · cases v
  | .idx x i, c, X, ex, h, v => by
    simp only [chk] at v
    split at v
    · simp only [Bool.and_eq_true] at v
      exact leaf (e_idx ((ok_e x c X _ h v.1.2).1 true) ((ok_e i c X _ h v.2).1 false) (not_tt v.1.1))
    · cases v
  | .cut x lo hi, c, X, ex, h, v => by
    simp only [chk] at v
    split at v
    · simp only [Bool.and_eq_true] at v
      exact leaf (e_cut ((ok_e x c X _ h v.1.1).1 true) (ok_o lo c X _ h v.1.2) (ok_o hi c X _ h v.2))
    · cases v
  | .rev x, c, X, ex, h, v => by
    simp only [chk] at v
    split at v
    · simp only [Bool.and_eq_true, decide_eq_true_eq] at v
      obtain ⟨rfl, v⟩ := v
      exact leaf (e_rev ((ok_e x c X _ h v).1 true))
    · cases v
  | .bi f es, c, X, ex, h, v => by
    simp only [chk] at v
    split at v
    · simp only [Bool.and_eq_true, decide_eq_true_eq] at v
      obtain ⟨⟨⟨v1, v2⟩, v3⟩, v4⟩ := v
      obtain ⟨q1, q2, _⟩ := ok_es es c X _ h v4
      rw [List.all_cons, Bool.and_eq_true] at q2
      refine leaf (e_bi h.calm h.hu v1 (h.gb v2) (fun nz => ?_) (fun z => ?_) (q1 _) (not_tt q2.1) q2.2)
      · rw [v1]
        exact h.bn _ (by cases f <;> first | (exact absurd rfl nz) | (unfold bns biN; simp))
      · subst v1 z
        refine h.gcd ?_
        simpa using v3
    · cases v
  | .call f es, c, X, ex, h, v => by
    simp only [chk] at v
    split at v
    · rename_i n p as pos
      simp only [Bool.and_eq_true, decide_eq_true_eq] at v
      obtain ⟨⟨⟨⟨rfl, v2⟩, v3⟩, v4⟩, v5⟩ := v
      obtain ⟨q1, q2, _⟩ := ok_es es c X _ h v5
      cases as with
      | nil =>
        cases es with
        | nil => exact leaf (e_call0 (h.fs _ v2) (h.gb v3) (dbg1 v4))
        | cons _ _ => simp [chks] at v5
      | cons a as =>
        rw [List.all_cons, Bool.and_eq_true] at q2
        exact leaf (e_call (h.fs _ v2) (h.gb v3) (dbg1 v4) (q1 _) (not_tt q2.1) q2.2)
    · cases v
  | .callB f es, c, X, ex, h, v => by
    simp only [chk] at v
    split at v
    · simp only [Bool.and_eq_true, decide_eq_true_eq] at v
      obtain ⟨⟨⟨⟨rfl, v2⟩, v3⟩, v4⟩, v5⟩ := v
      obtain ⟨q1, q2, _⟩ := ok_es es c X _ h v5
      rw [List.all_cons, Bool.and_eq_true] at q2
      exact leaf (e_callB (h.fs _ v2) (h.gb v3) (dbg1 v4) (q1 _) (not_tt q2.1) q2.2)
    · cases v
  | .lc e p it ifs own, c, X, ex, h, v => by
    simp only [chk] at v
    split at v
    · rename_i elt g scope pos
      obtain ⟨tg, iter, fs, k⟩ := g
      simp only [Bool.and_eq_true, decide_eq_true_eq] at v
      obtain ⟨⟨⟨⟨⟨⟨⟨v0, v1⟩, v2⟩, v3⟩, v4⟩, v5⟩, v6⟩, v7⟩ := v
      subst v0
      have ow := ownP_snd c.N own
      have hb := h.blk (scope := scope)
      have q := e_lc (pos := pos) (L := X.N.length) h.calm h.nd (ok_i it c X tg iter h v3 true) (h.blkOk v1) (fun i hi => by rw [ow]; exact subN_iff v2 i hi)
        (fun s H C cl fp => ok_p (hb s H C cl fp) p _ v5) (fun s H C cl fp => ok_f ifs _ _ _ (hb s H C cl fp) v6) (fun s H C cl fp => (ok_e e _ _ _ (hb s H C cl fp) v7).1 false) (nset v4)
      rw [ow] at q
      exact leaf q
    · cases v
  | .lc2 e p it ifs p2 it2 ifs2 own own2, c, X, ex, h, v => by
    simp only [chk] at v
    split at v
    · rename_i elt g g2 scope pos
      obtain ⟨tg, iter, fs, k⟩ := g
      obtain ⟨tg2, iter2, fs2, k2⟩ := g2
      simp only [Bool.and_eq_true, decide_eq_true_eq] at v
      obtain ⟨⟨⟨⟨⟨⟨⟨⟨⟨⟨⟨⟨⟨⟨u1, u2⟩, v1⟩, v2⟩, w1⟩, w2⟩, v3⟩, v4⟩, v5⟩, v6⟩, w3⟩, w4⟩, w5⟩, w6⟩, v7⟩ := v
      subst u1 u2
      have ow := ownP_snd c.N own
      have hb := h.blk (scope := scope)
      have q := e_lc2 (pos := pos) (L := X.N.length) (vs2 := own2) h.calm h.nd (ok_i it c X tg iter h v3 true) (h.blkOk v1) (fun i hi => by rw [ow]; exact subN_iff w2 i hi) (fun i hi => by rw [ow]; exact subN_iff v2 i hi) (subN_iff w1)
        (fun s H C cl fp => ok_p (hb s H C cl fp) p _ v5) (fun s H C cl fp => ok_f ifs _ _ _ (hb s H C cl fp) v6)
        (fun s H C cl fp => ok_i it2 _ _ tg2 iter2 (hb s H C cl fp) w3 false) (fun s H C cl fp => ok_p (hb s H C cl fp) p2 _ w5) (fun s H C cl fp => ok_f ifs2 _ _ _ (hb s H C cl fp) w6)
        (fun s H C cl fp => (ok_e e _ _ _ (hb s H C cl fp) v7).1 false) (nset v4) (nset w4)
      rw [ow] at q
      exact leaf q
    · cases v
  | .lrng es, c, X, ex, h, v => by
    simp only [chk] at v
    split at v
    · simp only [Bool.and_eq_true, decide_eq_true_eq] at v
      obtain ⟨⟨⟨⟨rfl, rfl⟩, v1⟩, v2⟩, v3⟩ := v
      have m1 : X.mg "list" = none := h.bn _ (by unfold bns; simp)
      have m2 : X.mg "range" = none := h.bn _ (by unfold bns; simp)
      match es, v3 with
      | .cons x .nil, v3 =>
        simp only [chkR] at v3
        split at v3
        · rw [Bool.and_eq_true] at v3
          exact leaf (e_lrng1 h.calm (h.gb v1) m1 (h.gb v2) m2 ((ok_e x c X _ h v3.2).1 false) (not_tt v3.1))
        · cases v3
      | .cons x (.cons y .nil), v3 =>
        simp only [chkR] at v3
        split at v3
        · simp only [Bool.and_eq_true] at v3
          exact leaf (e_lrng2 h.calm (h.gb v1) m1 (h.gb v2) m2 ((ok_e x c X _ h v3.1.2).1 false) ((ok_e y c X _ h v3.2).1 false) (not_tt v3.1.1.1) (not_tt v3.1.1.2))
        · cases v3
      | .nil, v3 => cases v3
      | .cons _ (.cons _ (.cons _ _)), v3 => cases v3
    · cases v
  | .ssc e p it ifs own, c, X, ex, h, v => by
    simp only [chk] at v
    split at v
    · rename_i n pn elt g scope ps pos
      obtain ⟨tg, iter, fs, k⟩ := g
      simp only [Bool.and_eq_true, decide_eq_true_eq] at v
      obtain ⟨⟨⟨⟨⟨⟨⟨⟨⟨rfl, u0⟩, v0⟩, v1⟩, v2⟩, v3⟩, v4⟩, v5⟩, v6⟩, v7⟩ := v
      subst v0
      have ow := ownP_snd c.N own
      have hb := h.blk (scope := scope)
      have q := e_ssc (pos := ps) (pf := pn) (pos2 := pos) (L := X.N.length) h.calm (h.gb u0) (h.bn _ (by unfold bns; simp)) h.nd (ok_i it c X tg iter h v3 true) (h.blkOk v1) (fun i hi => by rw [ow]; exact subN_iff v2 i hi)
        (fun s H C cl fp => ok_p (hb s H C cl fp) p _ v5) (fun s H C cl fp => ok_f ifs _ _ _ (hb s H C cl fp) v6) (fun s H C cl fp => (ok_e e _ _ _ (hb s H C cl fp) v7).1 false) (nset v4)
      rw [ow] at q
      exact leaf q
    · cases v
  | .ssc2 e p it ifs p2 it2 ifs2 own own2, c, X, ex, h, v => by
    simp only [chk] at v
    split at v
    · rename_i n pn elt g g2 scope ps pos
      obtain ⟨tg, iter, fs, k⟩ := g
      obtain ⟨tg2, iter2, fs2, k2⟩ := g2
      simp only [Bool.and_eq_true, decide_eq_true_eq] at v
      obtain ⟨⟨⟨⟨⟨⟨⟨⟨⟨⟨⟨⟨⟨⟨⟨⟨rfl, u0⟩, u1⟩, u2⟩, v1⟩, v2⟩, w1⟩, w2⟩, v3⟩, v4⟩, v5⟩, v6⟩, w3⟩, w4⟩, w5⟩, w6⟩, v7⟩ := v
      subst u1 u2
      have ow := ownP_snd c.N own
      have hb := h.blk (scope := scope)
      have q := e_ssc2 (pos := ps) (pf := pn) (pos2 := pos) (L := X.N.length) (vs2 := own2) h.calm (h.gb u0) (h.bn _ (by unfold bns; simp)) h.nd (ok_i it c X tg iter h v3 true) (h.blkOk v1) (fun i hi => by rw [ow]; exact subN_iff w2 i hi) (fun i hi => by rw [ow]; exact subN_iff v2 i hi) (subN_iff w1)
        (fun s H C cl fp => ok_p (hb s H C cl fp) p _ v5) (fun s H C cl fp => ok_f ifs _ _ _ (hb s H C cl fp) v6)
        (fun s H C cl fp => ok_i it2 _ _ tg2 iter2 (hb s H C cl fp) w3 false) (fun s H C cl fp => ok_p (hb s H C cl fp) p2 _ w5) (fun s H C cl fp => ok_f ifs2 _ _ _ (hb s H C cl fp) w6)
        (fun s H C cl fp => (ok_e e _ _ _ (hb s H C cl fp) v7).1 false) (nset v4) (nset w4)
      rw [ow] at q
      exact leaf q
    · cases v
  | .sst x, c, X, ex, h, v => by
    simp only [chk] at v
    split at v
    · simp only [Bool.and_eq_true, decide_eq_true_eq] at v
      obtain ⟨⟨⟨⟨⟨rfl, rfl⟩, v1⟩, v2⟩, v3⟩, v4⟩ := v
      exact leaf (e_sst h.calm (h.gb v1) (h.bn _ (by unfold bns; simp)) (h.gb v2) (h.bn _ (by unfold bns; simp)) ((ok_e x c X _ h v4).1 true) (not_tt v3))
    · cases v
  | .lset x, c, X, ex, h, v => by
    simp only [chk] at v
    split at v
    · simp only [Bool.and_eq_true, decide_eq_true_eq] at v
      obtain ⟨⟨⟨⟨⟨rfl, rfl⟩, v1⟩, v2⟩, v3⟩, v4⟩ := v
      exact leaf (e_lset h.calm (h.gb v1) (h.bn _ (by unfold bns; simp)) (h.gb v2) (h.bn _ (by unfold bns; simp)) ((ok_e x c X _ h v4).1 true) (not_tt v3))
    · cases v
  | .skeys i, c, X, ex, h, v => by
    simp only [chk] at v
    split at v
    · simp only [Bool.and_eq_true, decide_eq_true_eq] at v
      obtain ⟨⟨⟨⟨rfl, v1⟩, v2⟩, v3⟩, v4⟩ := v
      exact leaf (e_skeys h.calm h.hu (h.gb v1) (h.bn _ (by unfold bns; simp)) (h.at v2) (h.vis v3) (dbg1 v4) (dbg2 v4))
    · cases v
theorem ok_es : ∀ (es : Xps) (c : CE) (X : Cx) (exs : List Expr), Ctx S G c X → chks S es c exs = true → (∀ b, PA X exs (tAs X.K G X.N.length b es)) ∧ (exs.all fun e => !isStar e) = true ∧
    ∀ k, exs ≠ [] → ∀ pos, PE X (.BoolOp (bO k) exs pos) (tBl X.K G X.N.length k es) ∧ (tts es = true → PW X (.BoolOp (bO k) exs pos) (tBlT X.K G X.N.length k es))
  | .nil, c, X, exs, h, v => by
    simp only [chks] at v
    split at v
    · exact ⟨fun b => a_nil, rfl, fun k z => absurd rfl z⟩
    · cases v
  | .cons x xs, c, X, exs, h, v => by
    simp only [chks] at v
    split at v
    · rename_i e es
      simp only [Bool.and_eq_true] at v
      obtain ⟨⟨v1, v2⟩, v3⟩ := v
      have q := ok_e x c X _ h v2
      have qs := ok_es xs c X _ h v3
      refine ⟨fun b => a_cons (q.1 b) (qs.1 b) (not_tt v1), by rw [List.all_cons, v1, qs.2.1]; rfl, fun k _ pos => ?_⟩
      match xs, es, v3, qs with
      | .nil, [], v3, qs => exact ⟨bl_one (q.1 false), fun z => blT_one (q.2 (Bool.and_eq_true _ _ ▸ z).1)⟩
      | .cons x2 xs, e2 :: es, v3, qs =>
        have q2 := qs.2.2 k (by simp) pos
        exact ⟨bl_cons (q.1 false) q2.1, fun z => blT_cons (q.2 (Bool.and_eq_true _ _ ▸ z).1) (q2.2 (Bool.and_eq_true _ _ ▸ z).2)⟩
      | .nil, _ :: _, v3, qs => simp [chks] at v3
      | .cons _ _, [], v3, qs => simp [chks] at v3
    · cases v
theorem ok_f : ∀ (es : Xps) (c : CE) (X : Cx) (exs : List Expr), Ctx S G c X → chkF S es c exs = true → PTs X exs (tIfs X.K G X.N.length es)
  | .nil, c, X, exs, h, v => by
    simp only [chkF] at v
    split at v
    · exact ts_nil
    · cases v
  | .cons x .nil, c, X, exs, h, v => by
    simp only [chkF] at v
    split at v
    · rw [Bool.and_eq_true] at v
      exact ts_one ((ok_e x c X _ h v.2).2 v.1)
    · cases v
  | .cons _ (.cons _ _), c, X, exs, h, v => by cases v
theorem ok_o : ∀ (o : Option Xp) (c : CE) (X : Cx) (ex : Option Expr), Ctx S G c X → chkO S o c ex = true → PO X ex (tPt X.K G X.N.length o)
  | none, c, X, ex, h, v => by
    simp only [chkO] at v
    split at v
    · exact p_none
    · cases v
  | some x, c, X, ex, h, v => by
    simp only [chkO] at v
    split at v
    · exact p_some ((ok_e x c X _ h v).1 false)
    · cases v
theorem ok_i : ∀ (it : Xi) (c : CE) (X : Cx) (tg iter : Expr), Ctx S G c X → chkI S it c tg iter = true → ∀ b, PI X tg iter (tI X.K G X.N.length b it)
  | .seq x, c, X, tg, iter, h, v => by
    simp only [chkI] at v
    exact fun b => i_seq ((ok_e x c X _ h v).1 b)
  | .rng es, c, X, tg, iter, h, v => by
    simp only [chkI] at v
    split at v
    · simp only [Bool.and_eq_true, decide_eq_true_eq] at v
      obtain ⟨⟨rfl, v1⟩, v3⟩ := v
      have m2 : X.mg "range" = none := h.bn _ (by unfold bns; simp)
      match es, v3 with
      | .cons x .nil, v3 =>
        simp only [chkR] at v3
        split at v3
        · rw [Bool.and_eq_true] at v3
          exact fun b => i_rng1 (h.gb v1) m2 (a_cons ((ok_e x c X _ h v3.2).1 false) a_nil (not_tt v3.1)) (not_tt v3.1)
        · cases v3
      | .cons x (.cons y .nil), v3 =>
        simp only [chkR] at v3
        split at v3
        · simp only [Bool.and_eq_true] at v3
          exact fun b => i_rng2 (h.gb v1) m2 (a_cons ((ok_e x c X _ h v3.1.2).1 false) (a_cons ((ok_e y c X _ h v3.2).1 false) a_nil (not_tt v3.1.1.2)) (not_tt v3.1.1.1)) (not_tt v3.1.1.1) (not_tt v3.1.1.2)
        · cases v3
      | .nil, v3 => cases v3
      | .cons _ (.cons _ (.cons _ _)), v3 => cases v3
    · cases v
  | .enum x, c, X, tg, iter, h, v => by
    simp only [chkI] at v
    split at v
    · simp only [Bool.and_eq_true, decide_eq_true_eq] at v
      obtain ⟨⟨⟨⟨rfl, v1⟩, v2⟩, v3⟩, v4⟩ := v
      cases tg <;> first | (cases v2; done) | skip
      exact fun b => i_enum (h.gb v1) (h.bn _ (by unfold bns; simp)) (a_cons ((ok_e x c X _ h v4).1 b) a_nil (not_tt v3)) (not_tt v3)
    · cases v
  | .zip x y, c, X, tg, iter, h, v => by
    simp only [chkI] at v
    split at v
    · simp only [Bool.and_eq_true, decide_eq_true_eq] at v
      obtain ⟨⟨⟨⟨⟨⟨rfl, v1⟩, v2⟩, v3⟩, v4⟩, v5⟩, v6⟩ := v
      cases tg <;> first | (cases v2; done) | skip
      exact fun b => i_zip (h.gb v1) (h.bn _ (by unfold bns; simp)) (a_cons ((ok_e x c X _ h v5).1 b) (a_cons ((ok_e y c X _ h v6).1 b) a_nil (not_tt v4)) (not_tt v3)) (not_tt v3) (not_tt v4)
    · cases v
end
end Pv

set_option Elab.async false
set_option linter.all false
set_option maxRecDepth 100000
set_option maxHeartbeats 1000000
/-! Statements: the state, the turns of the state. -/
namespace Pv
open PySem PySem.Spec PyProof.Rows L2

structure SO (K : PySem.W.Frag) (L : Nat) (O0 : Addr → Prop) (H0 : Hp) (O : Addr → Prop) (H : Hp) (σ : L2.St) (ρ : En) (oa : OA) : Prop where
  om : OM O H
  eo : EO K L O H σ ρ oa
  s : Same H0 H
  sub : ∀ a, O0 a → O a
  om0 : OM O0 H0
  fr : ∀ i a, a ∈ oa i → H0 a = none
def EndS (K : PySem.W.Frag) (L : Nat) (O0 : Addr → Prop) (H0 : Hp) (O : Addr → Prop) (H : Hp) (D : Ends) (r : Fl × En) : Prop := match r.1 with
  | .nx => ∀ O' σ' H' oa', SO K L O0 H0 O' H' σ' r.2 oa' → Same (hid O H) (hid O' H') → D.nx σ' H'
  | .brk => ∀ O' σ' H' oa', SO K L O0 H0 O' H' σ' r.2 oa' → Same (hid O H) (hid O' H') → D.bk σ' H'
  | .cnt => ∀ O' σ' H' oa', SO K L O0 H0 O' H' σ' r.2 oa' → Same (hid O H) (hid O' H') → D.ct σ' H'
  | .ret fr d => Post K O0 H0 fr d D.rt
def tS (K : PySem.W.Frag) (G : Cfg) (N L : Nat) (s : Sm) : TS := fun D σ H => ∃ O0 H0 O ρ oa r, SO K L O0 H0 O H σ ρ oa ∧ ex G N s ρ = some r ∧ EndS K L O0 H0 O H D r
def tSs (K : PySem.W.Frag) (G : Cfg) (N L : Nat) (s : Sms) : TS := fun D σ H => ∃ O0 H0 O ρ oa r, SO K L O0 H0 O H σ ρ oa ∧ exs G N s ρ = some r ∧ EndS K L O0 H0 O H D r
section
variable {K : PySem.W.Frag} {L : Nat} {O0 O O' : Addr → Prop} {H0 H H' : Hp} {σ : L2.St} {ρ : En} {oa : OA} {D : Ends} {r : Fl × En}
theorem EndS.up (h : EndS K L O0 H0 O H D r) (s : Same (hid O H) (hid O' H')) : EndS K L O0 H0 O' H' D r := by
  obtain ⟨f, ρ'⟩ := r
  cases f with
  | nx => exact fun O2 σ2 H2 oa2 so t => h O2 σ2 H2 oa2 so (s.trans t)
  | brk => exact fun O2 σ2 H2 oa2 so t => h O2 σ2 H2 oa2 so (s.trans t)
  | cnt => exact fun O2 σ2 H2 oa2 so t => h O2 σ2 H2 oa2 so (s.trans t)
  | ret fr d => exact h
theorem SO.mono (h : SO K L O0 H0 O H σ ρ oa) (s : Same H H') : SO K L O0 H0 O H' σ ρ oa := ⟨h.om.mono s, h.eo.mono s, h.s.trans s, h.sub, h.om0, h.fr⟩
theorem oaSet_sub {i j : Nat} {a : Addr} (h : a ∈ oaSet oa i [] j) : a ∈ oa j := by
  unfold oaSet at h
  split at h
  · cases h
  · exact h
theorem SO.val {i : Nat} {v : V} {d : Pv.D} (h : SO K L O0 H0 O H σ ρ oa) (r : Rp K (hid O H) v d) (hl : i < L) : SO K L O0 H0 O H (σ.set i (some v)) (ρ.set i (.val d)) (oaSet oa i []) :=
  ⟨h.om, h.eo.val r hl, h.s, h.sub, h.om0, fun j a ha => h.fr j a (oaSet_sub ha)⟩
theorem SO.wipeR (h : SO K L O0 H0 O H σ ρ oa) (vs : List Nat) : SO K L O0 H0 O H σ (wipeE ρ vs) oa := ⟨h.om, h.eo.wipeR vs, h.s, h.sub, h.om0, h.fr⟩
theorem EO.dom (h : EO K L O H σ ρ oa) (om : OM O H) {p : Addr} (np : H p = none) (i : Nat) : p ∉ oa i := fun z => by
  obtain ⟨o, e, _⟩ := om p (h.own i p z)
  rw [np] at e; cases e
/-- a new list of the def's own -/
theorem SO.own {i : Nat} {p : Addr} {vs : List V} {ds : List Pv.D} (h : SO K L O0 H0 O H σ ρ oa) (s : Same H H') (np : H p = none) (e : H' p = some (.lst vs)) (r : Rps K (hid (fun a => O a ∨ a = p) H') vs ds) (hl : i < L) :
    SO K L O0 H0 (plus O p) H' (σ.set i (some (.ref p))) (ρ.set i (.own ds)) (oaSet oa i [p]) ∧ Same (hid O H) (hid (plus O p) H') := by
  have nd := h.eo.dom h.om np
  have eo' : EO K L (plus O p) H' σ ρ oa := h.eo.hide s (plus_new np) fun a ha => .inl ha
  refine ⟨⟨fun a ha => ha.elim (fun z => (h.om.mono s) a z) fun z => ⟨HO.lst vs, z ▸ e, trivial⟩, ?_, h.s.trans s, fun a ha => .inl (h.sub a ha), h.om0, fun j a ha => ?_⟩, hid_new s (plus_new np)⟩
  · refine eo'.put (fun _ => ⟨p, vs, rfl, oaSet_self, e, r⟩) (fun j hj => oaSet_ne hj) (fun a ha => ?_) (fun j a hj ha => ?_) hl
    · rw [oaSet_self, List.mem_singleton] at ha
      exact .inr ha
    · rw [oaSet_self, List.mem_singleton] at ha
      subst ha
      exact nd j
  · unfold oaSet at ha
    split at ha
    · rw [List.mem_singleton] at ha
      subst ha
      exact h.s.free np
    · exact h.fr j a ha
/-- a new thing of the def's own, any kind -/
theorem SO.ownG {i : Nat} {p : Addr} {bs : List Addr} {e' : Ent} (h : SO K L O0 H0 O H σ ρ oa) (s : Same H H') (nb : ∀ b ∈ p :: bs, H b = none) (mt : ∀ b ∈ p :: bs, ∃ o, H' b = some o ∧ MutO o)
    (he : EntOk K (fun a => O a ∨ a ∈ p :: bs) H' (p :: bs) (some (.ref p)) e') (hl : i < L) :
    SO K L O0 H0 (fun a => O a ∨ a ∈ p :: bs) H' (σ.set i (some (.ref p))) (ρ.set i e') (oaSet oa i (p :: bs)) ∧ Same (hid O H) (hid (fun a => O a ∨ a ∈ p :: bs) H') := by
  have new : ∀ a, (O a ∨ a ∈ p :: bs) → O a ∨ H a = none := fun a ha => ha.elim .inl fun z => .inr (nb a z)
  have eo' : EO K L (fun a => O a ∨ a ∈ p :: bs) H' σ ρ oa := h.eo.hide s new fun a ha => .inl ha
  refine ⟨⟨fun a ha => ha.elim (fun z => (h.om.mono s) a z) fun z => mt a z, ?_, h.s.trans s, fun a ha => .inl (h.sub a ha), h.om0, fun j a ha => ?_⟩, hid_new s new⟩
  · refine eo'.put (fun _ => by rw [oaSet_self]; exact he) (fun j hj => oaSet_ne hj) (fun a ha => ?_) (fun j a hj ha => ?_) hl
    · rw [oaSet_self] at ha
      exact .inr ha
    · rw [oaSet_self] at ha
      exact h.eo.dom h.om (nb a ha) j
  · unfold oaSet at ha
    split at ha
    · exact h.s.free (nb a ha)
    · exact h.fr j a ha
/-- one's own thing is changed -/
theorem SO.mut {i : Nat} {a : Addr} {o' : HO} {e' : Ent} (h : SO K L O0 H0 O H σ ρ oa) (ha : a ∈ oa i) (m : MutO o') (he : EntOk K O (upd H a o') (oa i) (at' σ i) e') : SO K L O0 H0 O (upd H a o') σ (ρ.set i e') oa ∧ Same (hid O H) (hid O (upd H a o')) := by
  have hO := h.eo.own i a ha
  have t : Same (hid O H) (hid O (upd H a o')) := hid_upd hO
  refine ⟨⟨fun b hb => ?_, ⟨h.eo.len, fun j => ?_, h.eo.own, h.eo.dis⟩, ?_, h.sub, h.om0, h.fr⟩, t⟩
  · by_cases hba : b = a
    · subst hba; exact ⟨o', upd_same, m⟩
    · rw [upd_ne hba]; exact h.om b hb
  · rw [getD_set]
    by_cases hij : i = j
    · subst hij
      by_cases hr : i < ρ.length
      · rw [if_pos ⟨rfl, hr⟩]; exact he
      · rw [if_neg (fun z => hr z.2), show ρ.getD i .no = .no from by rw [List.getD_eq_getElem?_getD, List.getElem?_eq_none (by simpa using hr)]; rfl]
        trivial
    · rw [if_neg (fun z => hij z.1)]
      refine (h.eo.ent j).to (fun b hb o e => ?_) t
      have hba : b ≠ a := fun z => hij (h.eo.dis i j a ha (z ▸ hb))
      rw [upd_ne hba]; exact e
  · intro b x e
    rw [upd_ne (ne_of_none e (h.fr i a ha))]
    exact h.s b x e
/-- a list that is no longer changed -/
theorem SO.frz {i : Nat} (h : SO K L O0 H0 O H σ ρ oa) {e' : Ent} (he : ∀ O', (∀ a, O' a → O a) → (∀ a, a ∈ oa i → ¬ O' a) → EntOk K O' H [] (at' σ i) e') : ∃ O', SO K L O0 H0 O' H σ (ρ.set i e') (oaSet oa i []) ∧ Same (hid O H) (hid O' H) := by
  refine ⟨fun a => O a ∧ a ∉ oa i, ?_, hid_less fun a ha => ha.1⟩
  have t : Same (hid O H) (hid (fun a => O a ∧ a ∉ oa i) H) := hid_less fun a ha => ha.1
  refine ⟨h.om.sub fun a ha => ha.1, ⟨h.eo.len, fun j => ?_, fun j a ha => ?_, fun j k a h1 h2 => h.eo.dis j k a (oaSet_sub h1) (oaSet_sub h2)⟩, h.s, fun a ha => ⟨h.sub a ha, fun z => ?_⟩, h.om0, fun j a ha => h.fr j a (oaSet_sub ha)⟩
  · rw [getD_set]
    by_cases hij : i = j
    · subst hij
      rw [oaSet_self]
      by_cases hr : i < ρ.length
      · rw [if_pos ⟨rfl, hr⟩]; exact he _ (fun a ha => ha.1) fun a ha z => z.2 ha
      · rw [if_neg (fun z => hr z.2), show ρ.getD i .no = .no from by rw [List.getD_eq_getElem?_getD, List.getElem?_eq_none (by simpa using hr)]; rfl]
        trivial
    · rw [if_neg (fun z => hij z.1), oaSet_ne (Ne.symm hij)]
      exact (h.eo.ent j).to (fun b hb o e => e) t
  · have hj : j ≠ i := fun z => by subst z; rw [oaSet_self] at ha; cases ha
    rw [oaSet_ne hj] at ha
    exact ⟨h.eo.own j a ha, fun z => hj (h.eo.dis j i a ha z)⟩
  · obtain ⟨o, e, _⟩ := h.om0 a ha
    rw [h.fr i a z] at e; cases e
end

section
variable {X : Cx}
theorem _root_.L2.PS.imp {st : Stmt} {t t' : TS} (h : PS X st t) (i : ∀ D σ H, t' D σ H → t D σ H) : PS X st t' := ⟨fun pins s σ H D I hw => h.run pins s σ H D I (i _ _ _ hw)⟩
theorem _root_.L2.PSs.imp {st : List Stmt} {t t' : TS} (h : PSs X st t) (i : ∀ D σ H, t' D σ H → t D σ H) : PSs X st t' := ⟨fun pins s σ H D I hw => h.run pins s σ H D I (i _ _ _ hw)⟩
variable {G : Cfg} {N L : Nat} {st : Stmt} {sts : List Stmt} {sm : Sm} {ss : Sms}
theorem ss_nil : PSs X [] (tSs X.K G N L .nil) := pss_nil.imp fun D σ H h => by
  obtain ⟨O0, H0, O, ρ, oa, r, so, e, q⟩ := h
  cases e
  exact q O σ H oa so (Same.refl _)
theorem ss_cons (h1 : PS X st (tS X.K G N L sm)) (h2 : PSs X sts (tSs X.K G N L ss)) : PSs X (st :: sts) (tSs X.K G N L (.cons sm ss)) := (pss_cons h1 h2).imp fun D σ H h => by
  obtain ⟨O0, H0, O, ρ, oa, r, so, e, q⟩ := h
  simp only [exs, Option.bind_eq_some_iff] at e
  obtain ⟨⟨f, ρ1⟩, e1, e2⟩ := e
  refine ⟨O0, H0, O, ρ, oa, (f, ρ1), so, e1, ?_⟩
  cases f with
  | nx => exact fun O' σ' H' oa' so' t => ⟨O0, H0, O', ρ1, oa', r, so', e2, q.up t⟩
  | brk => cases e2; exact q
  | cnt => cases e2; exact q
  | ret fr d => cases e2; exact q
theorem ss_kil {is : List Nat} (h2 : PSs X sts (tSs X.K G N L ss)) : PSs X sts (tSs X.K G N L (.cons (.kil is) ss)) := h2.imp fun D σ H h => by
  obtain ⟨O0, H0, O, ρ, oa, r, so, e, q⟩ := h
  simp only [exs, ex, Option.bind_some] at e
  exact ⟨O0, H0, O, wipeE ρ is, oa, r, so.wipeR is, e, q⟩
theorem own2_rps {K : PySem.W.Frag} {O O' : Addr → Prop} {H : Hp} : ∀ {bs : List Addr} {dss : List (List Pv.D)}, Own2 K O H bs dss → (∀ a, O' a → O a) → (∀ b ∈ bs, ¬ O' b) → Rps K (hid O' H) (bs.map .ref) (dss.map .list)
  | _, _, .nil, _, _ => .nil
  | _, _, .cons h r, s, n => by
    obtain ⟨vs, e, rr⟩ := h
    exact .cons (.lst (hid_iff.mpr ⟨n _ (List.mem_cons_self ..), e⟩) (rr.mono (hid_less s))) (own2_rps r s fun b hb => n b (List.mem_cons_of_mem _ hb))
theorem ss_frz {i : Nat} (h2 : PSs X sts (tSs X.K G N L ss)) : PSs X sts (tSs X.K G N L (.cons (.frz i) ss)) := h2.imp fun D σ H h => by
  obtain ⟨O0, H0, O, ρ, oa, r, so, e, q⟩ := h
  simp only [exs, Option.bind_eq_some_iff] at e
  obtain ⟨⟨f, ρ1⟩, e1, e2⟩ := e
  have ent := so.eo.ent i
  simp only [ex] at e1
  split at e1
  · rename_i ds hd
    cases e1
    rw [hd] at ent
    obtain ⟨a, vs, k1, k2, k3, k4⟩ := ent
    obtain ⟨O', so', t⟩ := so.frz (i := i) (e' := .val (.list ds)) fun O' s n => ⟨_, k1, .lst (hid_iff.mpr ⟨n a (by rw [k2]; simp), k3⟩) (k4.mono (hid_less s))⟩
    exact ⟨O0, H0, O', _, _, r, so', e2, q.up t⟩
  · rename_i dss hd
    cases e1
    rw [hd] at ent
    obtain ⟨a, bs, k1, k2, k3, k4, k5⟩ := ent
    obtain ⟨O', so', t⟩ := so.frz (i := i) (e' := .val (.list (dss.map .list))) fun O' s n => ⟨_, k1, .lst (hid_iff.mpr ⟨n a (by rw [k2]; simp), k4⟩) (own2_rps k5 s fun b hb => n b (by rw [k2]; simp [hb]))⟩
    exact ⟨O0, H0, O', _, _, r, so', e2, q.up t⟩
  · rename_i d hd
    cases e1
    rw [hd] at ent
    obtain ⟨v, k1, k2⟩ := ent
    obtain ⟨O', so', t⟩ := so.frz (i := i) (e' := .val d) fun O' s n => ⟨v, k1, k2.mono (hid_less s)⟩
    exact ⟨O0, H0, O', _, _, r, so', e2, q.up t⟩
  · cases e1
end
end Pv

set_option Elab.async false
set_option linter.all false
set_option maxRecDepth 100000
set_option maxHeartbeats 1000000
/-! Statements by constructors. -/
namespace Pv
open PySem PySem.Spec PyProof.Rows L2

def isComp' : Expr → Bool
  | .ListComp .. => true
  | .SetComp .. => true
  | .DictComp .. => true
  | _ => false
theorem sw_none {ex : Expr} {t : Option Expr} {l : Nat} {env : Env} (h : isComp' ex = false) : swapsWith ex t l env = pure false := by
  cases ex <;> first | rfl | cases h
section
variable {X : Cx} {G : Cfg} {N L : Nat} {D : Ends} {σ : L2.St} {H : Hp} {e : Xp} {i : Nat} {x : Str} {ex' a : Expr} {pos p p1 p2 p3 : Pos}
theorem asg_go {own : Bool} (hl : i < L) (h : tS X.K G N L (.asg own i e) D σ H) : tE X.K G L false e σ H (fun v H1 => gName i v σ H1 D.nx) := by
  obtain ⟨O0, H0, O, ρ, oa, r, so, ee, q⟩ := h
  simp only [ex, Option.bind_eq_some_iff] at ee
  obtain ⟨d, ed, ee⟩ := ee
  refine ⟨O, ρ, oa, d, so.om, so.eo, ed, fun v H1 s1 r1 f1 => ?_⟩
  cases own with
  | false =>
    cases ee
    exact q O _ H1 _ ((so.mono s1).val r1 hl) (hid_same s1)
  | true =>
    simp only [if_true] at ee
    split at ee
    · rename_i ds
      split at ee
      · rename_i hf
        cases ee
        obtain ⟨pp, vs, rfl, np, e1, rr⟩ := f1 hf ds rfl
        obtain ⟨so', t⟩ := so.own (i := i) s1 np e1 rr hl
        exact q _ _ H1 _ so' t
      · cases ee
    · cases ee
theorem lt_of_at (hL : X.N.length = L) (hi : X.N[i]? = some x) : i < L := by rw [← hL]; exact (List.getElem?_eq_some_iff.mp hi).1
theorem s_asg {own : Bool} (hL : X.N.length = L) (hN : X.N.Nodup) (hi : X.N[i]? = some x) (hx : Loc X.env.scope x) (hf : X.fn x = true ∨ X.env.scope.names.lookup x = some .local) (he : PE X ex' (tE X.K G L false e)) (hs : swapsWith ex' (some (.Name x p)) pos.line X.env = pure false) :
    PS X (.Assign [.Name x p] ex' pos) (tS X.K G N L (.asg own i e)) := (ps_set hN hi hx he hs hf).imp fun _ _ _ h => asg_go (lt_of_at hL hi) h
theorem s_asgp {pt : Pat} {tg : Expr} (hg : PG X tg (tP X.K L pt)) (he : PE X ex' (tE X.K G L false e)) (hs : swapsWithSole [tg] ex' pos.line X.env = pure false) (hw : swappedStores [tg] ex' X.env = pure none) (h1 : (assignEach [tg] X.env).map (·.2) = [assign tg X.env]) :
    PS X (.Assign [tg] ex' pos) (tS X.K G N L (.asgp pt e)) := (ps_asg he hg hs hw h1).imp fun D σ H h => by
  obtain ⟨O0, H0, O, ρ, oa, r, so, ee, q⟩ := h
  simp only [ex, Option.bind_eq_some_iff, Option.map_eq_some_iff] at ee
  obtain ⟨d, ed, ρ', e2, rfl⟩ := ee
  refine ⟨O, ρ, oa, d, so.om, so.eo, ed, fun v H1 s1 r1 _ => ⟨O, ρ, oa, d, ρ', so.om.mono s1, so.eo.mono s1, r1, e2, fun σ' oa' eo' sb df => ?_⟩⟩
  exact q O σ' H1 oa' ⟨so.om.mono s1, eo', so.s.trans s1, so.sub, so.om0, fun j b hb => so.fr j b (sb j b hb)⟩ (hid_same s1)
theorem s_par2 {i j : Nat} {x y : Str} {a b : Expr} {es : Xps} {px py pt : Pos} {kt k2 pt2} (hL : X.N.length = L) (hc : X.calm = true) (hN : X.N.Nodup) (hi : X.N[i]? = some x) (hj : X.N[j]? = some y) (hij : i ≠ j) (hx : X.env.scope.names.lookup x = some .local) (hy : X.env.scope.names.lookup y = some .local) (ha : PA X [a, b] (tAs X.K G L false es))
    (hw : swappedStores [.Tuple [.Name x px, .Name y py] kt pt] (.Tuple [a, b] k2 pt2) X.env = pure (some [x, y])) : PS X (.Assign [.Tuple [.Name x px, .Name y py] kt pt] (.Tuple [a, b] k2 pt2) pos) (tS X.K G N L (.par [i, j] es)) :=
  (ps_par hc hN hi hj hij hx hy ha hw).imp fun D σ H h => by
  obtain ⟨O0, H0, O, ρ, oa, r, so, ee, q⟩ := h
  simp only [ex, Option.bind_eq_some_iff, Option.map_eq_some_iff] at ee
  obtain ⟨ds, ed, ρ', e2, rfl⟩ := ee
  refine ⟨O, ρ, oa, ds, so.om, so.eo, ed, fun vs H1 s1 (r1 : Rps X.K (hid O H1) vs ds) => ?_⟩
  match vs, ds, r1, e2 with
  | [], [], _, e2 => cases e2
  | [_], [_], _, e2 => cases e2
  | [v, w], [d1, d2], .cons r1 (.cons r2 .nil), e2 =>
    cases e2
    exact ⟨v, w, rfl, q O _ H1 _ (((so.mono s1).val r1 (lt_of_at hL hi)).val r2 (lt_of_at hL hj)) (hid_same s1)⟩
  | _ :: _ :: _ :: _, _ :: _ :: _ :: _, _, e2 => cases e2
theorem s_par3 {i j l : Nat} {x y z : Str} {a b c : Expr} {es : Xps} {px py pz pt : Pos} {kt k2 pt2} (hL : X.N.length = L) (hc : X.calm = true) (hN : X.N.Nodup) (hi : X.N[i]? = some x) (hj : X.N[j]? = some y) (hl : X.N[l]? = some z) (hij : i ≠ j) (hil : i ≠ l) (hjl : j ≠ l)
    (hx : X.env.scope.names.lookup x = some .local) (hy : X.env.scope.names.lookup y = some .local) (hz : X.env.scope.names.lookup z = some .local) (ha : PA X [a, b, c] (tAs X.K G L false es))
    (hw : swappedStores [.Tuple [.Name x px, .Name y py, .Name z pz] kt pt] (.Tuple [a, b, c] k2 pt2) X.env = pure (some [x, y, z])) : PS X (.Assign [.Tuple [.Name x px, .Name y py, .Name z pz] kt pt] (.Tuple [a, b, c] k2 pt2) pos) (tS X.K G N L (.par [i, j, l] es)) :=
  (ps_par3 hc hN hi hj hl hij hil hjl hx hy hz ha hw).imp fun D σ H h => by
  obtain ⟨O0, H0, O, ρ, oa, r, so, ee, q⟩ := h
  simp only [ex, Option.bind_eq_some_iff, Option.map_eq_some_iff] at ee
  obtain ⟨ds, ed, ρ', e2, rfl⟩ := ee
  refine ⟨O, ρ, oa, ds, so.om, so.eo, ed, fun vs H1 s1 (r1 : Rps X.K (hid O H1) vs ds) => ?_⟩
  match vs, ds, r1, e2 with
  | [], [], _, e2 => cases e2
  | [_], [_], _, e2 => cases e2
  | [_, _], [_, _], _, e2 => cases e2
  | [v, w, u], [d1, d2, d3], .cons r1 (.cons r2 (.cons r3 .nil)), e2 =>
    cases e2
    exact ⟨v, w, u, rfl, q O _ H1 _ ((((so.mono s1).val r1 (lt_of_at hL hi)).val r2 (lt_of_at hL hj)).val r3 (lt_of_at hL hl)) (hid_same s1)⟩
  | _ :: _ :: _ :: _ :: _, _ :: _ :: _ :: _ :: _, _, e2 => cases e2
theorem getO_some {ρ : En} {ds : List Pv.D} (h : getO ρ i = some ds) : ρ.getD i .no = .own ds := by
  unfold getO at h
  split at h
  · rename_i hh; cases h; exact hh
  · cases h
theorem getO2_some {ρ : En} {ds : List (List Pv.D)} (h : getO2 ρ i = some ds) : ρ.getD i .no = .own2 ds := by
  unfold getO2 at h
  split at h
  · rename_i hh; cases h; exact hh
  · cases h
theorem few1 {cpos : Pos} {a : Expr} {env : Env} (hs : isStar a = false) : ((backTo cpos (starEach [a] env)).all (fun x => !x.1) && (backToKw cpos (keywordEach [] env)).all (fun x => x.1.isSome)
      && decide ([a].length + ([] : List Keyword).length + (if ([] : List Keyword).isEmpty then 0 else 1) < 30)) = true := by
  rw [star_cons hs]; rfl
theorem s_app {py : Pos} (hi : X.N[i]? = some x) (hv : Vis X.env.scope x) (hd : (x == ("__debug__" : Str)) = false) (hcd : (x == ("__classdict__" : Str)) = false) (ha : PE X a (tE X.K G L false e)) (hs : isStar a = false) (hline : (p1.endLine == p2.line) = true) :
    PS X (.Expr (.Call (.Attribute (.Name x py) "append" p1) [a] [] p2) pos) (tS X.K G N L (.app i e)) :=
  (ps_expr (pe_bm F.plainAttrs_list F.slot_list_append F.type_list_append mt_append (pe_var hi hv hd hcd) (a_cons (xs := .nil) ha a_nil hs) rfl (few1 hs) hline (star_cons hs) rfl)).imp fun D σ H h => by
  obtain ⟨O0, H0, O, ρ, oa, r, so, ee, q⟩ := h
  simp only [ex, Option.bind_eq_some_iff] at ee
  obtain ⟨d, ed, ds, eds, ee⟩ := ee
  split at ee
  · rename_i hl
    cases ee
    have ent := so.eo.ent i
    rw [getO_some eds] at ent
    obtain ⟨l, vs, k1, k2, k3, k4⟩ := ent
    refine ⟨_, at'_some k1, .inl ⟨rfl, vs, SqL.of k3⟩, O, ρ, oa, [d], so.om, so.eo, by simp [evs, ed], fun ws H2 s2 (r2 : Rps X.K (hid O H2) ws [d]) => ?_⟩
    cases r2 with
    | cons r2 r3 =>
      cases r3
      refine ⟨l, vs, _, rfl, rfl, s2 _ _ k3, by rw [k4.length]; exact hl, ?_⟩
      have la : l ∈ oa i := by rw [k2]; simp
      have so2 := so.mono s2
      obtain ⟨so', t⟩ := so2.mut (i := i) (o' := .lst (vs ++ [_])) (e' := .own (ds ++ [d])) la trivial ⟨l, _, k1, k2, upd_same, ((k4.mono (hid_same s2)).append (.cons r2 .nil)).mono (hid_upd (so.eo.own i l la))⟩
      exact q O σ _ oa so' ((hid_same s2).trans t)
  · cases ee
theorem s_ext {py : Pos} (hi : X.N[i]? = some x) (hv : Vis X.env.scope x) (hd : (x == ("__debug__" : Str)) = false) (hcd : (x == ("__classdict__" : Str)) = false) (ha : PE X a (tE X.K G L true e)) (hs : isStar a = false) (hline : (p1.endLine == p2.line) = true) :
    PS X (.Expr (.Call (.Attribute (.Name x py) "extend" p1) [a] [] p2) pos) (tS X.K G N L (.ext i e)) :=
  (ps_expr (pe_bm F.plainAttrs_list F.slot_list_extend F.type_list_extend mt_extend (pe_var hi hv hd hcd) (a_cons (xs := .nil) ha a_nil hs) rfl (few1 hs) hline (star_cons hs) rfl)).imp fun D σ H h => by
  obtain ⟨O0, H0, O, ρ, oa, r, so, ee, q⟩ := h
  simp only [ex, Option.bind_eq_some_iff] at ee
  obtain ⟨d, ed, ds, eds, ee⟩ := ee
  split at ee
  · rename_i es
    split at ee
    · rename_i hl
      cases ee
      have ent := so.eo.ent i
      rw [getO_some eds] at ent
      obtain ⟨l, vs, k1, k2, k3, k4⟩ := ent
      refine ⟨_, at'_some k1, .inl ⟨rfl, vs, SqL.of k3⟩, O, ρ, oa, [.list es], so.om, so.eo, by simp [evs, ed], fun ws H2 s2 (r2 : BRps X.K O H2 ws [.list es]) => ?_⟩
      obtain ⟨w, rfl, r4⟩ := r2.one
      obtain ⟨b, zs, rfl, e1, r3⟩ := r4.lst
      refine ⟨l, b, vs, zs, rfl, rfl, s2 _ _ k3, e1, by rw [k4.length, r3.length]; exact hl, ?_⟩
      have la : l ∈ oa i := by rw [k2]; simp
      have so2 := so.mono s2
      obtain ⟨so', t⟩ := so2.mut (i := i) (o' := .lst (vs ++ zs)) (e' := .own (ds ++ es)) la trivial ⟨l, _, k1, k2, upd_same, ((k4.mono (hid_same s2)).append r3).mono (hid_upd (so.eo.own i l la))⟩
      exact q O σ _ oa so' ((hid_same s2).trans t)
    · cases ee
  · cases ee
theorem sub_asg {o i : Expr} {pos : Pos} {env : Env} (h : isSlice i = false) (v : Value) : assign (.Subscript o i pos) env v = (do
      let ov ← holding [v] (eval o env)
      let iv ← holding [v, ov] (eval i env)
      standAt pos
      holding [v, ov, iv] (setItem ov iv v)
      release [v, ov, iv] []) := by
  cases i <;> first | rfl | cases h
theorem s_seti {py ps : Pos} {k v : Xp} {ik : Expr} (hi : X.N[i]? = some x) (hv : Vis X.env.scope x) (hd : (x == ("__debug__" : Str)) = false) (hcd : (x == ("__classdict__" : Str)) = false) (hk : PE X ik (tE X.K G L false k)) (ha : PE X a (tE X.K G L false v)) (hs : isSlice ik = false)
    (hsw : swapsWithSole [.Subscript (.Name x py) ik ps] a pos.line X.env = pure false) (hw : swappedStores [.Subscript (.Name x py) ik ps] a X.env = pure none) :
    PS X (.Assign [.Subscript (.Name x py) ik ps] a pos) (tS X.K G N L (.seti i k v)) :=
  (ps_asg ha (pg_sub (pe_var hi hv hd hcd) hk set_list (sub_asg hs)) hsw hw rfl).imp fun D σ H h => by
  obtain ⟨O0, H0, O, ρ, oa, r, so, ee, q⟩ := h
  simp only [ex, Option.bind_eq_some_iff] at ee
  obtain ⟨dv, edv, dk, edk, j, ej, ds, eds, m, em, ee⟩ := ee
  cases ee
  obtain rfl := asInt_some ej
  refine ⟨O, ρ, oa, dv, so.om, so.eo, edv, fun w H1 s1 r1 _ => ?_⟩
  have ent := so.eo.ent i
  rw [getO_some eds] at ent
  obtain ⟨l, vs, k1, k2, k3, k4⟩ := ent
  refine ⟨_, at'_some k1, O, ρ, oa, _, so.om.mono s1, so.eo.mono s1, edk, fun w2 H2 s2 r2 _ => ?_⟩
  cases r2
  have s12 := s1.trans s2
  refine ⟨l, vs, j, m, rfl, rfl, s12 _ _ k3, by rw [k4.length]; exact em, ?_⟩
  have la : l ∈ oa i := by rw [k2]; simp
  have so2 := so.mono s12
  obtain ⟨so', t⟩ := so2.mut (i := i) (o' := .lst (vs.set m w)) (e' := .own (ds.set m dv)) la trivial ⟨l, _, k1, k2, upd_same, ((k4.mono (hid_same s12)).set (r1.mono (hid_same s2)) m).mono (hid_upd (so.eo.own i l la))⟩
  exact q O σ _ oa so' ((hid_same s12).trans t)
theorem s_aug {o : O2} {op : Operator} (ho : bop o = some op) (ho2 : o = .add ∨ o = .sub) (hL : X.N.length = L) (hN : X.N.Nodup) (hi : X.N[i]? = some x) (hx : Loc X.env.scope x) (hf : X.fn x = true ∨ X.env.scope.names.lookup x = some .local) (he : PE X a (tE X.K G L false e)) :
    PS X (.AugAssign (.Name x p) op a pos) (tS X.K G N L (.aug i o e)) := by
  have go : ∀ (f : Int → Int → Int), (∀ y z, op2 o (.int y) (.int z) = some (.int (f y z))) → ∀ D σ H, tS X.K G N L (.aug i o e) D σ H → tAug i (tE X.K G L false e) (ipI f) D σ H := by
    intro f hf D σ H h
    obtain ⟨O0, H0, O, ρ, oa, r, so, ee, q⟩ := h
    simp only [ex, Option.bind_eq_some_iff] at ee
    obtain ⟨d, ed, d2, ed2, ee⟩ := ee
    split at ee
    · rename_i y z
      rw [hf] at ee
      cases ee
      obtain ⟨v, e1, r⟩ := so.eo.rd ed
      cases (show Rp X.K (hid O H) v (.int y) from r)
      refine ⟨_, e1, O, ρ, oa, _, so.om, so.eo, ed2, fun w H1 s1 r1 _ => ?_⟩
      cases r1
      exact ⟨y, z, rfl, rfl, q O _ H1 _ ((so.mono s1).val (.int _) (lt_of_at hL hi)) (hid_same s1)⟩
    · cases ee
  rcases ho2 with rfl | rfl
  · cases ho
    exact (ps_aug hN hi hx he ip_add hf).imp (go _ fun _ _ => rfl)
  · cases ho
    exact (ps_aug hN hi hx he ip_sub hf).imp (go _ fun _ _ => rfl)
theorem s_ret (he : PE X a (tE X.K G L false e)) : PS X (.Return (some a) pos) (tS X.K G N L (.ret e)) := (ps_ret he).imp fun D σ H h => by
  obtain ⟨O0, H0, O, ρ, oa, r, so, ee, q⟩ := h
  simp only [ex, Option.map_eq_some_iff] at ee
  obtain ⟨d, ed, rfl⟩ := ee
  refine ⟨O, ρ, oa, d, so.om, so.eo, ed, fun v H1 s1 r1 f1 => ?_⟩
  refine q v H1 (so.s.trans s1) (r1.mono (hid_less so.sub)) fun hf ds e1 => ?_
  obtain ⟨pp, vs, k1, k2, k3, k4⟩ := f1 hf ds e1
  exact ⟨pp, vs, k1, so.s.free k2, k3, k4.mono (hid_less fun b hb => hb.elim (fun z => .inl (so.sub b z)) .inr)⟩
theorem s_retn : PS X (.Return none pos) (tS X.K G N L .retn) := ps_retN.imp fun D σ H h => by
  obtain ⟨O0, H0, O, ρ, oa, r, so, ee, q⟩ := h
  cases ee
  exact q .non H so.s .non fun z => by cases z
theorem s_ite {c : Xp} {ce : Expr} {sa sb : List Stmt} {ma mb : Sms} (hc : PT X ce (tTst X.K G L c)) (ha : PSs X sa (tSs X.K G N L ma)) (hb : PSs X sb (tSs X.K G N L mb)) : PS X (.If ce sa sb pos) (tS X.K G N L (.ite c ma mb)) := (ps_if hc ha hb).imp fun D σ H h => by
  obtain ⟨O0, H0, O, ρ, oa, r, so, ee, q⟩ := h
  simp only [ex, Option.bind_eq_some_iff] at ee
  obtain ⟨d, ed, t, et, ee⟩ := ee
  refine ⟨O, ρ, oa, t, so.om, so.eo, Option.bind_eq_some_iff.mpr ⟨d, ed, et⟩, fun H1 s1 => ?_⟩
  cases t with
  | true => exact ⟨O0, H0, O, ρ, oa, r, so.mono s1, ee, q.up (hid_same s1)⟩
  | false => exact ⟨O0, H0, O, ρ, oa, r, so.mono s1, ee, q.up (hid_same s1)⟩
theorem s_for {pt : Pat} {it : Xi} {b : Sms} {kill : List Nat} {tg iter : Expr} {body : List Stmt} (hxe : X.xe = fun _ _ => False) (hc : X.calm = true) (hi : PI X tg iter (tI X.K G L false it)) (hg : PG X tg (tP X.K L pt)) (hb : PSs X body (tSs X.K G N L b)) (hs : isSet iter = false) :
    PS X (.For tg iter body [] pos) (tS X.K G N L (.for pt it b kill)) := (ps_for (by rw [hxe]; exact PassesOwn.never) hc hi hg hb (fold_set hs)).imp fun D σ H h => by
  obtain ⟨O0, H0, O, ρ, oa, r, so, ee, q⟩ := h
  simp only [ex, Option.bind_eq_some_iff] at ee
  obtain ⟨xs, exs', ee⟩ := ee
  refine ⟨O, ρ, oa, xs, so.om, so.eo, exs', fun J H1 s1 src => ?_⟩
  obtain ⟨Gw, Y, w, st, yd⟩ := src
  have q1 := q.up (hid_same s1)
  refine for_it w (fun i σi Hi => ∃ Oi ρi oai, SO X.K L O0 H0 Oi Hi σi ρi oai ∧ Same (hid O H1) (hid Oi Hi) ∧ forGo (fun x ρ => (bindPat pt x ρ).bind fun ρ1 => exs G N b ρ1) kill (xs.drop i) ρi = some r) ?_ ?_ ?_ ?_
  · exact ⟨O, ρ, oa, so.mono s1, Same.refl _, by simpa using ee⟩
  · rintro i σi Hi hi' ⟨Oi, ρi, oai, so', t, _⟩
    exact st Oi Hi ⟨t, fun z => by cases z⟩
  · rintro i v σi Hi H' hi' ⟨Oi, ρi, oai, so', t, eg⟩ y
    obtain ⟨s3, d, ed, rd⟩ := yd i Oi Hi v H' hi' ⟨t, fun z => by cases z⟩ so'.om y
    rw [drop_get ed] at eg
    simp only [forGo, Option.bind_eq_some_iff] at eg
    obtain ⟨⟨fl, ρ'⟩, ⟨ρ1, b1, b2⟩, eg⟩ := eg
    have so3 := so'.mono s3
    refine ⟨Oi, ρi, oai, d, ρ1, so3.om, so3.eo, rd, b1, fun σ2 oa2 eo2 sb df => ⟨O0, H0, Oi, ρ1, oa2, (fl, ρ'), ⟨so3.om, eo2, so3.s, so3.sub, so3.om0, fun j c hc => so3.fr j c (sb j c hc)⟩, b2, ?_⟩⟩
    have t3 := t.trans (hid_same s3)
    cases fl with
    | nx => exact fun O' σ' H2 oa' so4 t4 => ⟨O', wipeE ρ' kill, oa', so4.wipeR kill, t3.trans t4, eg⟩
    | cnt => exact fun O' σ' H2 oa' so4 t4 => ⟨O', wipeE ρ' kill, oa', so4.wipeR kill, t3.trans t4, eg⟩
    | brk => cases eg; exact fun O' σ' H2 oa' so4 t4 => q1 O' σ' H2 oa' (so4.wipeR kill) (t3.trans t4)
    | ret fr d' => cases eg; exact q1
  · rintro σi Hi ⟨Oi, ρi, oai, so', t, eg⟩
    rw [List.drop_length] at eg
    cases eg
    exact q1 Oi σi Hi oai so' t
theorem s_whl {c : Xp} {b : Sms} {kill : List Nat} {ce : Expr} {body : List Stmt} (hxe : X.xe = fun _ _ => False) (hc : PT X ce (tTst X.K G L c)) (hb : PSs X body (tSs X.K G N L b)) : PS X (.While ce body [] pos) (tS X.K G N L (.whl c b kill)) :=
  (ps_while (by rw [hxe]; exact PassesOwn.never) hc hb).imp fun D σ H h => by
  obtain ⟨O0, H0, O, ρ, oa, r, so, ee, q⟩ := h
  simp only [ex] at ee
  refine ⟨fun m σi Hi => ∃ Oi ρi oai, SO X.K L O0 H0 Oi Hi σi ρi oai ∧ Same (hid O H) (hid Oi Hi) ∧ whlGo (fun ρ => (ev G false c ρ).bind asBool) (fun ρ => exs G N b ρ) kill m ρi = some r, ⟨N, O, ρ, oa, so, Same.refl _, ee⟩, ?_⟩
  rintro m σi Hi ⟨Oi, ρi, oai, so', t, eg⟩
  cases m with
  | zero => cases eg
  | succ m =>
    simp only [whlGo, Option.bind_eq_some_iff] at eg
    obtain ⟨tt, ⟨dc, ec, et⟩, eg⟩ := eg
    refine ⟨Oi, ρi, oai, tt, so'.om, so'.eo, Option.bind_eq_some_iff.mpr ⟨dc, ec, et⟩, fun H1 s1 => ?_⟩
    have so1 := so'.mono s1
    have t1 := t.trans (hid_same s1)
    cases tt with
    | false =>
      cases eg
      exact q Oi σi H1 oai so1 t1
    | true =>
      simp only [if_true, Option.bind_eq_some_iff] at eg
      obtain ⟨⟨fl, ρ'⟩, b2, eg⟩ := eg
      refine ⟨fun σ' H' => ∃ Oj ρj oaj, SO X.K L O0 H0 Oj H' σ' ρj oaj ∧ Same (hid O H) (hid Oj H') ∧ whlGo (fun ρ => (ev G false c ρ).bind asBool) (fun ρ => exs G N b ρ) kill m ρj = some r, fun σ' H' z => ⟨m, Nat.lt_succ_self m, z⟩, O0, H0, Oi, ρi, oai, (fl, ρ'), so1, b2, ?_⟩
      cases fl with
      | nx => exact fun O' σ' H2 oa' so4 t4 => ⟨O', wipeE ρ' kill, oa', so4.wipeR kill, t1.trans t4, eg⟩
      | cnt => exact fun O' σ' H2 oa' so4 t4 => ⟨O', wipeE ρ' kill, oa', so4.wipeR kill, t1.trans t4, eg⟩
      | brk => cases eg; exact fun O' σ' H2 oa' so4 t4 => q O' σ' H2 oa' (so4.wipeR kill) (t1.trans t4)
      | ret fr d' => cases eg; exact q
theorem s_brk : PS X (.Break pos) (tS X.K G N L .brk) := ps_break.imp fun D σ H h => by
  obtain ⟨O0, H0, O, ρ, oa, r, so, ee, q⟩ := h
  cases ee
  exact q O σ H oa so (Same.refl _)
theorem s_cnt : PS X (.Continue pos) (tS X.K G N L .cnt) := ps_continue.imp fun D σ H h => by
  obtain ⟨O0, H0, O, ρ, oa, r, so, ee, q⟩ := h
  cases ee
  exact q O σ H oa so (Same.refl _)
theorem s_pas : PS X (.Pass pos) (tS X.K G N L .pas) := ps_pass.imp fun D σ H h => by
  obtain ⟨O0, H0, O, ρ, oa, r, so, ee, q⟩ := h
  cases ee
  exact q O σ H oa so (Same.refl _)
theorem s_exp (he : PE X a (tE X.K G L false e)) (hs : isComp' a = false) : PS X (.Expr a pos) (tS X.K G N L (.exp e)) := (ps_expr he (sw_none hs)).imp fun D σ H h => by
  obtain ⟨O0, H0, O, ρ, oa, r, so, ee, q⟩ := h
  simp only [ex, Option.map_eq_some_iff] at ee
  obtain ⟨d, ed, rfl⟩ := ee
  exact ⟨O, ρ, oa, d, so.om, so.eo, ed, fun v H1 s1 r1 _ => q O σ H1 oa (so.mono s1) (hid_same s1)⟩
theorem s_nev {st : Stmt} : PS X st (tS X.K G N L .nev) := ps_never.imp fun D σ H h => by
  obtain ⟨O0, H0, O, ρ, oa, r, so, ee, q⟩ := h
  cases ee
end
end Pv

set_option Elab.async false
set_option linter.all false
set_option maxRecDepth 100000
set_option maxHeartbeats 1000000
/-! Lists of lists, dicts of the def's own. -/
namespace Pv
open PySem PySem.Spec PyProof.Rows L2

def isNil : Expr → Bool
  | .List [] _ => true
  | _ => false
def tEmp (n : Nat) : TA := fun _ H Q => ∀ (bs : List Addr) H', bs.length = n → bs.Nodup → (∀ b ∈ bs, H b = none) → Same H H' → (∀ b ∈ bs, H' b = some (.lst [])) → Q (bs.map V.ref) H'
section
variable {X : Cx} {G : Cfg} {N L : Nat} {D : Ends} {σ : L2.St} {H : Hp} {e : Xp} {i : Nat} {x : Str} {ex' a : Expr} {pos p p1 p2 p3 : Pos}
theorem a_emp : ∀ exs : List Expr, (exs.all isNil) = true → PA X exs (tEmp exs.length)
  | [], _ => pa_nil.imp fun σ H Q h => h [] H rfl .nil (fun _ z => nomatch z) (Same.refl H) fun _ z => nomatch z
  | e :: es, hh => by
    have hh' : isNil e = true ∧ (es.all isNil) = true := by simpa using hh
    have ih := a_emp es hh'.2
    have q : ∃ ps, e = .List [] ps := by
      have h1 := hh'.1
      unfold isNil at h1
      split at h1
      · exact ⟨_, rfl⟩
      · cases h1
    obtain ⟨ps, rfl⟩ := q
    refine (pa_cons (pe_lst pa_nil) ih rfl).imp fun σ H Q h => ⟨by simp, fun p np bs H' l1 nd fr s e => ?_⟩
    have s0 := same_upd (o := .lst []) np
    have ne : ∀ b ∈ bs, b ≠ p := fun b hb z => by
      have := fr b hb
      rw [z, upd_same] at this; cases this
    refine h (p :: bs) H' (by rw [List.length_cons, l1]; rfl) (List.nodup_cons.mpr ⟨fun z => ne p z rfl, nd⟩) (fun b hb => ?_) (s0.trans s) (fun b hb => ?_)
    · rcases List.mem_cons.mp hb with rfl | hb
      · exact np
      · exact s0.free (fr b hb)
    · rcases List.mem_cons.mp hb with rfl | hb
      · exact s _ _ upd_same
      · exact e b hb
theorem own2_nils {K : PySem.W.Frag} {O : Addr → Prop} {H : Hp} : ∀ {bs : List Addr}, (∀ b ∈ bs, H b = some (.lst [])) → Own2 K O H bs (List.replicate bs.length [])
  | [], _ => .nil
  | b :: bs, h => .cons ⟨[], h b (List.mem_cons_self ..), .nil⟩ (own2_nils fun c hc => h c (List.mem_cons_of_mem _ hc))
theorem s_own2 {exs : List Expr} {pl : Pos} (hL : X.N.length = L) (hN : X.N.Nodup) (hi : X.N[i]? = some x) (hx : Loc X.env.scope x) (hf : X.fn x = true ∨ X.env.scope.names.lookup x = some .local) (he : (exs.all isNil) = true) (hn : exs.length < 1000) :
    PS X (.Assign [.Name x p] (.List exs pl) pos) (tS X.K G N L (.own2 i exs.length)) := (ps_set hN hi hx (pe_lst (a_emp exs he)) rfl hf).imp fun D σ H h => by
  obtain ⟨O0, H0, O, ρ, oa, r, so, ee, q⟩ := h
  cases ee
  intro bs H1 l1 nd fr s1 e1
  refine ⟨by rw [List.length_map, l1, sizeLine_eq]; omega, fun pp np => ?_⟩
  have s2 := s1.trans (same_upd (o := .lst (bs.map V.ref)) np)
  have ne : ∀ b ∈ bs, b ≠ pp := fun b hb z => by
    have := e1 b hb
    rw [z, np] at this; cases this
  have e2 : ∀ b ∈ bs, upd H1 pp (.lst (bs.map V.ref)) b = some (.lst []) := fun b hb => by rw [upd_ne (ne b hb)]; exact e1 b hb
  have g1 : ∀ b ∈ pp :: bs, H b = none := fun b hb => by
    rcases List.mem_cons.mp hb with rfl | hb
    · exact s1.free np
    · exact fr b hb
  have g2 : ∀ b ∈ pp :: bs, ∃ o, upd H1 pp (.lst (bs.map V.ref)) b = some o ∧ MutO o := fun b hb => by
    rcases List.mem_cons.mp hb with rfl | hb
    · exact ⟨_, upd_same, trivial⟩
    · exact ⟨_, e2 b hb, trivial⟩
  have g3 : EntOk X.K (fun a => O a ∨ a ∈ pp :: bs) (upd H1 pp (.lst (bs.map V.ref))) (pp :: bs) (some (.ref pp)) (.own2 (List.replicate exs.length [])) :=
    ⟨pp, bs, rfl, rfl, List.nodup_cons.mpr ⟨fun z => ne pp z rfl, nd⟩, upd_same, l1 ▸ own2_nils e2⟩
  obtain ⟨so', t⟩ := so.ownG (i := i) s2 g1 g2 g3 (lt_of_at hL hi)
  exact q _ _ _ _ so' t
theorem Own2.len {K : PySem.W.Frag} {O : Addr → Prop} {H : Hp} {bs : List Addr} {dss : List (List Pv.D)} (h : Own2 K O H bs dss) : bs.length = dss.length := Paired.length h
theorem Own2.get {K : PySem.W.Frag} {O : Addr → Prop} {H : Hp} : ∀ {bs : List Addr} {dss : List (List Pv.D)} {m : Nat} {ds : List Pv.D}, Own2 K O H bs dss → dss[m]? = some ds → ∃ b vs, bs[m]? = some b ∧ H b = some (.lst vs) ∧ Rps K (hid O H) vs ds
  | _, _, _, _, .nil, h => by simp at h
  | _, _, 0, _, .cons p _, h => by
    simp at h; subst h
    obtain ⟨vs, e, r⟩ := p
    exact ⟨_, vs, rfl, e, r⟩
  | _, _, m + 1, _, .cons _ r, h => by
    obtain ⟨b, vs, h1, h2⟩ := Own2.get (m := m) r (by simpa using h)
    exact ⟨b, vs, by simpa using h1, h2⟩
theorem Own2.set {K : PySem.W.Frag} {O : Addr → Prop} {H : Hp} {ws : List V} {es : List Pv.D} : ∀ {bs : List Addr} {dss : List (List Pv.D)} {m : Nat} {b : Addr}, Own2 K O H bs dss → bs.Nodup → bs[m]? = some b → O b → Rps K (hid O (upd H b (.lst ws))) ws es → Own2 K O (upd H b (.lst ws)) bs (dss.set m es)
  | _, _, _, _, .nil, _, h, _, _ => by simp at h
  | c0 :: _, _, 0, _, .cons p r, nd, h, ob, rr => by
    simp at h; subst h
    rw [List.set_cons_zero]
    refine .cons ⟨ws, upd_same, rr⟩ (Own2.to r (fun c hc o e => ?_) (hid_upd ob))
    have ne : c ≠ c0 := fun z => (List.nodup_cons.mp nd).1 (by rw [← z]; exact hc)
    rw [upd_ne ne]; exact e
  | c :: bs, _, m + 1, b, .cons p r, nd, h, ob, rr => by
    rw [List.set_cons_succ]
    have h' : bs[m]? = some b := by simpa using h
    obtain ⟨vs, e, r1⟩ := p
    have ne : c ≠ b := fun z => (List.nodup_cons.mp nd).1 (z ▸ List.mem_of_getElem? h')
    exact .cons ⟨vs, by rw [upd_ne ne]; exact e, r1.mono (hid_upd ob)⟩ (Own2.set r (List.nodup_cons.mp nd).2 h' ob rr)
theorem s_app2 {py ps : Pos} {ik : Expr} {k v : Xp} (hi : X.N[i]? = some x) (hv : Vis X.env.scope x) (hd : (x == ("__debug__" : Str)) = false) (hcd : (x == ("__classdict__" : Str)) = false) (hk : PE X ik (tE X.K G L false k)) (hsl : isSlice ik = false) (ha : PE X a (tE X.K G L false v)) (hs : isStar a = false) (hline : (p1.endLine == p2.line) = true) :
    PS X (.Expr (.Call (.Attribute (.Subscript (.Name x py) ik ps) "append" p1) [a] [] p2) pos) (tS X.K G N L (.app2 i k v)) :=
  (ps_expr (pe_bm F.plainAttrs_list F.slot_list_append F.type_list_append mt_append (pe_ix ix_list (pe_var hi hv hd hcd) hk (plain_ix hsl)) (a_cons (xs := .nil) ha a_nil hs) rfl (few1 hs) hline (star_cons hs) rfl)).imp fun D σ H h => by
  obtain ⟨O0, H0, O, ρ, oa, r, so, ee, q⟩ := h
  simp only [ex, Option.bind_eq_some_iff] at ee
  obtain ⟨dk, edk, dv, edv, j, ej, dss, eds, m, em, ds, em2, ee⟩ := ee
  obtain rfl := asInt_some ej
  split at ee
  · rename_i hl
    cases ee
    have ent := so.eo.ent i
    rw [getO2_some eds] at ent
    obtain ⟨l, bs, k1, k2, k3, k4, k5⟩ := ent
    refine ⟨_, at'_some k1, O, ρ, oa, _, so.om, so.eo, edk, fun w H1 s1 r1 _ => ?_⟩
    cases r1
    obtain ⟨b, vs, f1, f2, f3⟩ := k5.get em2
    refine ⟨l, bs.map V.ref, j, .ref b, rfl, rfl, SqL.of (s1 _ _ k4), ?_, ?_⟩
    · unfold atI
      rw [List.length_map, k5.len, em]
      show (bs.map V.ref)[m]? = _
      rw [List.getElem?_map, f1]; rfl
    refine ⟨.inl ⟨rfl, vs, SqL.of (s1 _ _ f2)⟩, O, ρ, oa, [dv], so.om.mono s1, so.eo.mono s1, by simp [evs, edv], fun ws H2 s2 (r2 : Rps X.K (hid O H2) ws [dv]) => ?_⟩
    cases r2 with
    | cons r2 r3 =>
      cases r3
      have s12 := s1.trans s2
      refine ⟨b, vs, _, rfl, rfl, s12 _ _ f2, by rw [f3.length]; exact hl, ?_⟩
      have lb : b ∈ oa i := by rw [k2]; exact List.mem_cons_of_mem _ (List.mem_of_getElem? f1)
      have so2 := so.mono s12
      have nd := List.nodup_cons.mp (k2 ▸ k3)
      have nlb : l ≠ b := fun z => nd.1 (z ▸ List.mem_of_getElem? f1)
      have ob := so.eo.own i b lb
      obtain ⟨so', t⟩ := so2.mut (i := i) (o' := .lst (vs ++ [_])) (e' := .own2 (dss.set m (ds ++ [dv]))) lb trivial ⟨l, bs, k1, k2, k3, by rw [upd_ne nlb]; exact s12 _ _ k4, Own2.set (Own2.to k5 (fun _ _ _ e => s12 _ _ e) (hid_same s12)) nd.2 f1 ob (((f3.mono (hid_same s12)).append (.cons r2 .nil)).mono (hid_upd ob))⟩
      exact q O σ _ oa so' ((hid_same s12).trans t)
  · cases ee
theorem s_newd {tup : Bool} {pd : Pos} (hL : X.N.length = L) (hN : X.N.Nodup) (hi : X.N[i]? = some x) (hx : Loc X.env.scope x) (hf : X.fn x = true ∨ X.env.scope.names.lookup x = some .local) :
    PS X (.Assign [.Name x p] (.Dict [] [] pd) pos) (tS X.K G N L (.newd tup i)) := by
  have go : ∀ (o : HO) (e' : Ent), MutO o → (∀ (K : PySem.W.Frag) (O : Addr → Prop) (H : Hp) (a : Addr), H a = some o → EntOk K O H [a] (some (.ref a)) e') → (if tup = true then Ent.dcT [] else Ent.dcK []) = e' → ∀ D σ H, tS X.K G N L (.newd tup i) D σ H → ∀ pp, H pp = none → D.nx (σ.set i (some (.ref pp))) (upd H pp o) := by
    intro o e' mo he h1 D σ H h pp np
    obtain ⟨O0, H0, O, ρ, oa, r, so, ee, q⟩ := h
    simp only [ex] at ee
    rw [h1] at ee
    cases ee
    obtain ⟨so', t⟩ := so.ownG (i := i) (p := pp) (bs := []) (e' := e') (same_upd np) (fun b hb => by rw [List.mem_singleton.mp hb]; exact np) (fun b hb => ⟨o, by rw [List.mem_singleton.mp hb]; exact upd_same, mo⟩) (he _ _ _ _ upd_same) (lt_of_at hL hi)
    exact q _ _ _ _ so' t
  cases tup with
  | true => exact (ps_set hN hi hx pe_dnewT rfl hf).imp fun D σ H h => go (.dT []) (.dcT []) trivial (fun K O H a e => ⟨a, [], rfl, rfl, e, .nil⟩) rfl D σ H h
  | false => exact (ps_set hN hi hx pe_dnewK rfl hf).imp fun D σ H h => go (.dK []) (.dcK []) trivial (fun K O H a e => ⟨a, [], rfl, rfl, e, .nil⟩) rfl D σ H h
theorem keyOf_rp {K : PySem.W.Frag} {F : Hp} {v : V} {d : Pv.D} {k : Key} (h : Rp K F v d) (e : keyOf d = some k) : v = kV k := by
  cases d <;> first
    | (cases e; done)
    | (cases e; cases h; rfl)
theorem keysOf_rps {K : PySem.W.Frag} {F : Hp} : ∀ {vs : List V} {ds : List Pv.D} {ks : List Key}, Rps K F vs ds → keysOf ds = some ks → vs = ks.map kV
  | _, _, _, .nil, e => by cases e; rfl
  | _, _, _, .cons h r, e => by
    simp only [keysOf, Option.bind_eq_some_iff, Option.map_eq_some_iff] at e
    obtain ⟨k, e1, ks', e2, rfl⟩ := e
    rw [keyOf_rp h e1, keysOf_rps r e2]; rfl
theorem KD.any {κ : Type} [DecidableEq κ] {K : PySem.W.Frag} {F : Hp} {k : κ} {ws : List (κ × V)} {kvs : List (κ × Pv.D)} (h : KD K F ws kvs) : (ws.any fun kv => decide (kv.1 = k)) = kvs.any fun kv => decide (kv.1 = k) := by
  induction h with
  | nil => rfl
  | cons p _ ih => rw [List.any_cons, List.any_cons, ih, p.1]
theorem KD.mapP {κ : Type} [DecidableEq κ] {K : PySem.W.Frag} {F : Hp} {k : κ} {v : V} {d : Pv.D} {ws : List (κ × V)} {kvs : List (κ × Pv.D)} (h : KD K F ws kvs) (r : Rp K F v d) : KD K F (ws.map fun kv => if kv.1 = k then (kv.1, v) else kv) (kvs.map fun kv => if kv.1 = k then (kv.1, d) else kv) := by
  induction h with
  | nil => exact .nil
  | @cons a b l1 l2 p _ ih =>
    rw [List.map_cons, List.map_cons]
    refine .cons ?_ ih
    by_cases hk : b.1 = k
    · rw [if_pos hk, if_pos (p.1.trans hk)]; exact ⟨p.1, r⟩
    · rw [if_neg hk, if_neg (fun z => hk (p.1.symm.trans z))]; exact p
theorem KD.snoc {κ : Type} {K : PySem.W.Frag} {F : Hp} {k : κ} {v : V} {d : Pv.D} {ws : List (κ × V)} {kvs : List (κ × Pv.D)} (h : KD K F ws kvs) (r : Rp K F v d) : KD K F (ws ++ [(k, v)]) (kvs ++ [(k, d)]) := by
  induction h with
  | nil => exact .cons ⟨rfl, r⟩ .nil
  | cons p _ ih => exact .cons p ih
theorem KD.put {κ : Type} [DecidableEq κ] {K : PySem.W.Frag} {F : Hp} {k : κ} {v : V} {d : Pv.D} {ws : List (κ × V)} {kvs : List (κ × Pv.D)} (h : KD K F ws kvs) (r : Rp K F v d) : KD K F (putK ws k v) (putD kvs k d) := by
  unfold putK putD
  rw [h.any]
  split
  · exact h.mapP r
  · exact h.snoc r
theorem s_put {py ps : Pos} {ik : Expr} {k v : Xp} (hu : X.A.units + 1 < cLine) (hi : X.N[i]? = some x) (hv : Vis X.env.scope x) (hd : (x == ("__debug__" : Str)) = false) (hcd : (x == ("__classdict__" : Str)) = false) (hk : PE X ik (tE X.K G L false k)) (ha : PE X a (tE X.K G L false v))
    (hsw : swapsWith a (some (.Subscript (.Name x py) ik ps)) pos.line X.env = pure false) : PS X (.Assign [.Subscript (.Name x py) ik ps] a pos) (tS X.K G N L (.put i k v)) :=
  (ps_dput hu (pe_var hi hv hd hcd) hk ha hsw).imp fun D σ H h => by
  obtain ⟨O0, H0, O, ρ, oa, r, so, ee, q⟩ := h
  simp only [ex, Option.bind_eq_some_iff, Option.map_eq_some_iff] at ee
  obtain ⟨dv, edv, dk, edk, e', ep, rfl⟩ := ee
  refine ⟨O, ρ, oa, dv, so.om, so.eo, edv, fun w H1 s1 r1 _ => ?_⟩
  have ent := so.eo.ent i
  unfold putE at ep
  split at ep
  · rename_i kvs ks hρ
    rw [hρ] at ent
    simp only [Option.bind_eq_some_iff] at ep
    obtain ⟨ks', e1, ep⟩ := ep
    split at ep
    · rename_i hl
      cases ep
      obtain ⟨l, ws, k1, k2, k3, k4⟩ := ent
      refine ⟨_, at'_some k1, O, ρ, oa, _, so.om.mono s1, so.eo.mono s1, edk, fun w2 H2 s2 r2 _ => ?_⟩
      cases r2 with
      | tup t1 t2 =>
        have s12 := s1.trans s2
        have ek := keysOf_rps t2 e1
        subst ek
        refine ⟨l, _, rfl, DPut.t (s12 _ _ k3) (hid_iff.mp t1).2 (by rw [Paired.length k4]; exact hl), ?_⟩
        have la : l ∈ oa i := by rw [k2]; simp
        obtain ⟨so', t⟩ := (so.mono s12).mut (i := i) (o' := .dT (putK ws ks' w)) (e' := .dcT (putD kvs ks' dv)) la trivial ⟨l, _, k1, k2, upd_same, ((k4.mono (hid_same s12)).put (r1.mono (hid_same s2))).mono (hid_upd (so.eo.own i l la))⟩
        exact q O σ _ oa so' ((hid_same s12).trans t)
    · cases ep
  · rename_i kvs hρ
    rw [hρ] at ent
    simp only [Option.bind_eq_some_iff] at ep
    obtain ⟨ks', e1, ep⟩ := ep
    split at ep
    · rename_i hl
      cases ep
      obtain ⟨l, ws, k1, k2, k3, k4⟩ := ent
      refine ⟨_, at'_some k1, O, ρ, oa, _, so.om.mono s1, so.eo.mono s1, edk, fun w2 H2 s2 r2 _ => ?_⟩
      have s12 := s1.trans s2
      have ek := keyOf_rp r2 e1
      subst ek
      refine ⟨l, _, rfl, DPut.k (s12 _ _ k3) (by rw [Paired.length k4]; exact hl), ?_⟩
      have la : l ∈ oa i := by rw [k2]; simp
      obtain ⟨so', t⟩ := (so.mono s12).mut (i := i) (o' := .dK (putK ws ks' w)) (e' := .dcK (putD kvs ks' dv)) la trivial ⟨l, _, k1, k2, upd_same, ((k4.mono (hid_same s12)).put (r1.mono (hid_same s2))).mono (hid_upd (so.eo.own i l la))⟩
      exact q O σ _ oa so' ((hid_same s12).trans t)
    · cases ep
  · cases ep
end
end Pv

set_option Elab.async false
set_option linter.all false
set_option maxRecDepth 100000
set_option maxHeartbeats 4000000
/-! The checker of statements and its soundness. -/
namespace Pv
open PySem PySem.Spec PyProof.Rows L2

def isComp : Expr → Bool
  | .ListComp .. => true
  | .SetComp .. => true
  | .DictComp .. => true
  | _ => false
def isSD : Expr → Bool
  | .SetComp .. => true
  | .DictComp .. => true
  | _ => false
def lcl (c : CE) (x : Str) : Bool := decide (c.sc.names.lookup x = some .local)
def swB (c : CE) (x : Str) (p : Pos) : Expr → Bool
  | .ListComp _ _ scope lp => lcl c x && (p.line == lp.line) && !(scope.names.any fun (n, k) => n == x && (k == .local || k == .cell))
  | _ => false
def isPs : Sm → Bool
  | .kil _ => true
  | .frz _ => true
  | _ => false
/-- a store of a tuple that is no swap -/
def noSwap (tg : Expr) (ex : Expr) : Bool := match ex with
  | .Tuple vs _ _ => (match tg with
    | .Tuple ts _ _ => !(ts.length == 2 || ts.length == 3) || vs.all (foldedForSure 8)
    | _ => false)
  | _ => true
mutual
def chkS (S : Sg) : Sm → CE → Stmt → Bool
  | .asg own i e, c, st => match st with
    | .Assign [.Name x p] ex _ => nmOk c i x && locOk c x && !isSD ex && chk S e c ex
    | _ => false
  | .asgp p e, c, st => match st with
    | .Assign [tg] ex _ => chkP c p tg && isTup tg && !isComp ex && noSwap tg ex && chk S e c ex
    | _ => false
  | .par is es, c, st => match st with
    | .Assign [.Tuple [.Name x px, .Name y py] _ _] (.Tuple [a, b] _ _) _ => (match is with
      | [i, j] => nmOk c i x && nmOk c j y && lcl c x && lcl c y && decide (i ≠ j) && (py.line == px.line) && !isStar a && !isStar b && !([a, b].all (foldedForSure 8)) && !([a, b].all (constantsAlone 8)) && chks S es c [a, b]
      | _ => false)
    | .Assign [.Tuple [.Name x px, .Name y py, .Name z pz] _ _] (.Tuple [a, b, d] _ _) _ => (match is with
      | [i, j, l] => nmOk c i x && nmOk c j y && nmOk c l z && lcl c x && lcl c y && lcl c z && decide (i ≠ j) && decide (i ≠ l) && decide (j ≠ l) && (py.line == px.line) && (pz.line == px.line) && !isStar a && !isStar b && !isStar d && !([a, b, d].all (foldedForSure 8)) && !([a, b, d].all (constantsAlone 8)) && chks S es c [a, b, d]
      | _ => false)
    | _ => false
  | .app i e, c, st => match st with
    | .Expr (.Call (.Attribute (.Name x _) m p1) [a] [] p2) _ => decide (m = "append") && nmOk c i x && visOk c x && noDbg x && !isStar a && (p1.endLine == p2.line) && chk S e c a
    | _ => false
  | .ext i e, c, st => match st with
    | .Expr (.Call (.Attribute (.Name x _) m p1) [a] [] p2) _ => decide (m = "extend") && nmOk c i x && visOk c x && noDbg x && !isStar a && (p1.endLine == p2.line) && chk S e c a
    | _ => false
  | .seti i k v, c, st => match st with
    | .Assign [.Subscript (.Name x _) ik _] a _ => nmOk c i x && visOk c x && noDbg x && !isSlice ik && chk S k c ik && chk S v c a
    | _ => false
  | .own2 i n, c, st => match st with
    | .Assign [.Name x _] (.List exs _) _ => nmOk c i x && locOk c x && decide (exs.length = n) && decide (n < 1000) && exs.all isNil
    | _ => false
  | .app2 i k v, c, st => match st with
    | .Expr (.Call (.Attribute (.Subscript (.Name x _) ik _) m p1) [a] [] p2) _ => decide (m = "append") && nmOk c i x && visOk c x && noDbg x && !isSlice ik && !isStar a && (p1.endLine == p2.line) && chk S k c ik && chk S v c a
    | _ => false
  | .newd _ i, c, st => match st with
    | .Assign [.Name x _] (.Dict [] [] _) _ => nmOk c i x && locOk c x
    | _ => false
  | .put i k v, c, st => match st with
    | .Assign [.Subscript (.Name x _) ik _] a _ => nmOk c i x && visOk c x && noDbg x && chk S k c ik && chk S v c a
    | _ => false
  | .aug i o e, c, st => match st with
    | .AugAssign (.Name x _) op a _ => decide (bop o = some op) && (decide (o = .add) || decide (o = .sub)) && nmOk c i x && locOk c x && chk S e c a
    | _ => false
  | .ret e, c, st => match st with
    | .Return (some a) _ => chk S e c a
    | _ => false
  | .retn, _, st => match st with
    | .Return none _ => true
    | _ => false
  | .ite x a b, c, st => match st with
    | .If ce sa sb _ => tt x && chk S x c ce && chkSs S a c sa && chkSs S b c sb
    | _ => false
  | .for p it b _, c, st => match st with
    | .For tg iter body [] _ => chkP c p tg && chkI S it c tg iter && !isSet iter && chkSs S b c body
    | _ => false
  | .whl x b _, c, st => match st with
    | .While ce body [] _ => tt x && chk S x c ce && chkSs S b c body
    | _ => false
  | .brk, _, st => match st with
    | .Break _ => true
    | _ => false
  | .cnt, _, st => match st with
    | .Continue _ => true
    | _ => false
  | .pas, _, st => match st with
    | .Pass _ => true
    | _ => false
  | .exp e, c, st => match st with
    | .Expr a _ => !isComp' a && chk S e c a
    | _ => false
  | .kil _, _, _ => false
  | .frz _, _, _ => false
  | .nev, _, _ => true
def chkSs (S : Sg) : Sms → CE → List Stmt → Bool
  | .nil, _, sts => match sts with
    | [] => true
    | _ => false
  | .cons s ss, c, sts => if isPs s then chkSs S ss c sts else match sts with
    | st :: r => chkS S s c st && chkSs S ss c r
    | _ => false
end

structure CtxS (S : Sg) (G : Cfg) (c : CE) (X : Cx) : Prop extends Ctx S G c X where
  kind : X.env.scope.kind = .function
  xe : X.xe = fun _ _ => False
section
variable {S : Sg} {G : Cfg} {c : CE} {X : Cx}
theorem blk_kind {env : Env} (h : env.scope.kind = .function) : env.blockKind = .function := by unfold Env.blockKind; rw [h]; rfl
theorem sw_plain {ex : Expr} {t : Option Expr} {l : Nat} {env : Env} (h : isComp ex = false) : swapsWith ex t l env = pure false := by
  cases ex <;> first | rfl | cases h
theorem sw_sub {ex o i : Expr} {p : Pos} {l : Nat} {env : Env} : swapsWith ex (some (.Subscript o i p)) l env = pure false := by
  cases ex <;> rfl
theorem sw_tup {ex : Expr} {ts : List Expr} {k : Nat} {p : Pos} {l : Nat} {env : Env} : swapsWith ex (some (.Tuple ts k p)) l env = pure false := by
  cases ex <;> rfl
theorem kind_of (h : CtxS S G c X) (x : Str) : X.env.kindOf x = c.sc.names.lookup x := by
  show X.env.scope.names.lookup x = _
  rw [h.sc]
theorem sw_name (h : CtxS S G c X) {ex : Expr} {x : Str} {p : Pos} {l : Nat} (n : isSD ex = false) : swapsWith ex (some (.Name x p)) l X.env = pure (swB c x p ex) := by
  cases ex <;> first
    | rfl
    | (cases n; done)
    | skip
  rename_i elt gs scope lp
  unfold swapsWith swB lcl
  simp only [blk_kind h.kind, kind_of h, Expr.pos]
  congr 1
  rw [show (ScopeKind.function == ScopeKind.function) = true from rfl, Bool.true_and]
  congr 2
  cases c.sc.names.lookup x with
  | none => rfl
  | some k => cases k <;> rfl
theorem lcl_iff (h : CtxS S G c X) {x : Str} (v : lcl c x = true) : X.env.scope.names.lookup x = some .local := by
  rw [h.sc]; exact of_decide_eq_true v
theorem no_swap {tg ex : Expr} {env : Env} (n : noSwap tg ex = true) : swappedStores [tg] ex env = pure none := by
  unfold noSwap at n
  split at n
  · rename_i vs k p
    split at n
    · rename_i ts k2 p2
      unfold swappedStores
      rw [Bool.or_eq_true] at n
      show (ite _ _ _ : Sem (Option (List Str))) = _
      split
      · rfl
      · rename_i g
        rcases n with n | n
        · rw [n] at g
          exact absurd rfl g
        · split
          · rfl
          · show (ite _ _ _ : Sem (Option (List Str))) = _
            split
            · rfl
            · first | rfl | rw [if_pos n]
    · cases n
  · rename_i hh
    cases ex <;> first
      | (cases tg <;> rfl)
      | exact absurd rfl (hh _ _ _)
theorem no_star {e : Expr} (h : isStar e = false) : (match e with | Expr.Starred .. => true | _ => false) = false := by
  cases e <;> first | rfl | cases h
theorem dup2 {x y : Str} (h : (y == x) = false) : [x, y].eraseDups = [x, y] := by simp [List.eraseDups_cons, h]
theorem dup3 {x y z : Str} (h : (y == x) = false) (h2 : (z == x) = false) (h3 : (z == y) = false) : [x, y, z].eraseDups = [x, y, z] := by simp [List.eraseDups_cons, h, h2, h3]
theorem swap2 (h : CtxS S G c X) {x y : Str} {px py pt : Pos} {kt k2 : Nat} {pt2 : Pos} {a b : Expr} (hx : lcl c x = true) (hy : lcl c y = true) (ne : (y == x) = false) (hl : (py.line == px.line) = true) (sa : isStar a = false) (sb : isStar b = false)
    (f : ([a, b].all (foldedForSure 8)) = false) (g : ([a, b].all (constantsAlone 8)) = false) : swappedStores [.Tuple [.Name x px, .Name y py] kt pt] (.Tuple [a, b] k2 pt2) X.env = pure (some [x, y]) := by
  have e1 : X.env.kindOf x = some .local := lcl_iff h hx
  have e2 : X.env.kindOf y = some .local := lcl_iff h hy
  unfold swappedStores
  simp only [blk_kind h.kind]
  split
  · rename_i k; cases (show false = true from k)
  · split
    · rename_i _ k
      exfalso
      simp only [List.any_cons, List.any_nil, Bool.or_false, Bool.or_eq_true] at k
      rcases k with k | k
      · cases a <;> first | (cases k; done) | cases sa
      · cases b <;> first | (cases k; done) | cases sb
    · simp only [List.filterMap_cons, List.filterMap_nil, e1, e2, List.head?_cons, Option.map_some, Option.getD_some, Expr.pos, hl, beq_self_eq_true, Bool.and_self, if_true, f, g, dup2 ne, if_false, Bool.false_eq_true]
      first | rfl | simp
theorem swap3 (h : CtxS S G c X) {x y z : Str} {px py pz pt : Pos} {kt k2 : Nat} {pt2 : Pos} {a b d : Expr} (hx : lcl c x = true) (hy : lcl c y = true) (hz : lcl c z = true) (ne : (y == x) = false) (ne2 : (z == x) = false) (ne3 : (z == y) = false) (hl : (py.line == px.line) = true) (hl2 : (pz.line == px.line) = true) (sa : isStar a = false) (sb : isStar b = false) (sd : isStar d = false)
    (f : ([a, b, d].all (foldedForSure 8)) = false) (g : ([a, b, d].all (constantsAlone 8)) = false) : swappedStores [.Tuple [.Name x px, .Name y py, .Name z pz] kt pt] (.Tuple [a, b, d] k2 pt2) X.env = pure (some [x, y, z]) := by
  have e1 : X.env.kindOf x = some .local := lcl_iff h hx
  have e2 : X.env.kindOf y = some .local := lcl_iff h hy
  have e3 : X.env.kindOf z = some .local := lcl_iff h hz
  unfold swappedStores
  simp only [blk_kind h.kind]
  split
  · rename_i k; cases (show false = true from k)
  · split
    · rename_i _ k
      exfalso
      simp only [List.any_cons, List.any_nil, Bool.or_false, Bool.or_eq_true] at k
      rcases k with k | k | k
      · cases a <;> first | (cases k; done) | cases sa
      · cases b <;> first | (cases k; done) | cases sb
      · cases d <;> first | (cases k; done) | cases sd
    · simp only [List.filterMap_cons, List.filterMap_nil, e1, e2, e3, List.head?_cons, Option.map_some, Option.getD_some, Expr.pos, hl, hl2, beq_self_eq_true, Bool.and_self, if_true, f, g, dup3 ne ne2 ne3, if_false, Bool.false_eq_true]
      first | rfl | simp
end
end Pv

set_option Elab.async false
set_option linter.all false
set_option maxRecDepth 100000
set_option maxHeartbeats 4000000
/-! Soundness of statements; defs by levels. -/
namespace Pv
open PySem PySem.Spec PyProof.Rows L2

theorem sw_subS {ex o i : Expr} {p : Pos} {l : Nat} {env : Env} : swapsWithSole [.Subscript o i p] ex l env = pure false := by
  cases ex <;> rfl
section
variable {S : Sg} {G : Cfg}
theorem asgLc {N : Nat} {c : CE} {X : Cx} {own : Bool} {i : Nat} {e : Xp} {y : Str} {py lp spos : Pos} {elt : Expr} {gs : List Comprehension} {scope : Scope} (h : CtxS S G c X) (hy : X.N[i]? = some y) (hsw : swapsWith (.ListComp elt gs scope lp) (some (.Name y py)) spos.line X.env = pure true) (hyl : X.env.scope.names.lookup y = some .local)
    (v : chk S e c (.ListComp elt gs scope lp) = true) : PS X (.Assign [.Name y py] (.ListComp elt gs scope lp) spos) (tS X.K G N X.N.length (.asg own i e)) := by
  have hc := h.toCtx
  have hl : i < X.N.length := (List.getElem?_eq_some_iff.mp hy).1
  cases e with
  | lc e p it ifs ow =>
    match gs, v with
    | [g], v =>
      simp only [chk] at v
      obtain ⟨tg, iter, fs, k⟩ := g
      simp only [Bool.and_eq_true, decide_eq_true_eq] at v
      obtain ⟨⟨⟨⟨⟨⟨⟨v0, v1⟩, v2⟩, v3⟩, v4⟩, v5⟩, v6⟩, v7⟩ := v
      subst v0
      have oe := ownP_snd c.N ow
      have hb := hc.blk (scope := scope)
      refine (ps_setLc (g := tP X.K X.N.length p) (tt := tIfs X.K G X.N.length ifs) (te := tE X.K G X.N.length false e) hc.calm hc.nd hy hyl hsw (ok_i S G it c X tg iter hc v3 true) (hc.blkOk v1) (fun s H C cl fp => ok_p (hb s H C cl fp) p _ v5) (fun s H C cl fp => ok_f S G ifs _ _ _ (hb s H C cl fp) v6) (fun s H C cl fp => (ok_e S G e _ _ _ (hb s H C cl fp) v7).1 false) (fold_set (nset v4))).imp fun D σ H q => ?_
      have r := lc_go (subN_iff v2) (asg_go hl q)
      rw [← oe] at r
      exact r
    | [], v => simp [chk] at v
    | _ :: _ :: _, v => simp [chk] at v
  | lc2 e p it ifs p2 it2 ifs2 ow own2 =>
    match gs, v with
    | [g, g2], v =>
      simp only [chk] at v
      obtain ⟨tg, iter, fs, k⟩ := g
      obtain ⟨tg2, iter2, fs2, k2⟩ := g2
      simp only [Bool.and_eq_true, decide_eq_true_eq] at v
      obtain ⟨⟨⟨⟨⟨⟨⟨⟨⟨⟨⟨⟨⟨⟨u1, u2⟩, v1⟩, v2⟩, w1⟩, w2⟩, v3⟩, v4⟩, v5⟩, v6⟩, w3⟩, w4⟩, w5⟩, w6⟩, v7⟩ := v
      subst u1 u2
      have oe := ownP_snd c.N ow
      have hb := hc.blk (scope := scope)
      refine (ps_setLc2 (vs1 := own2) (g := tP X.K X.N.length p) (tt := tIfs X.K G X.N.length ifs) (wi1 := tI X.K G X.N.length false it2) (g1 := tP X.K X.N.length p2) (tt1 := tIfs X.K G X.N.length ifs2) (te := tE X.K G X.N.length false e) hc.calm hc.nd hy hyl hsw (ok_i S G it c X tg iter hc v3 true) (hc.blkOk v1) (fun i hi => by rw [oe]; exact subN_iff w2 i hi) (fun s H C cl fp => ok_p (hb s H C cl fp) p _ v5) (fun s H C cl fp => ok_f S G ifs _ _ _ (hb s H C cl fp) v6)
        (fun s H C cl fp => ok_i S G it2 _ _ tg2 iter2 (hb s H C cl fp) w3 false) (fun s H C cl fp => ok_p (hb s H C cl fp) p2 _ w5) (fun s H C cl fp => ok_f S G ifs2 _ _ _ (hb s H C cl fp) w6)
        (fun s H C cl fp => (ok_e S G e _ _ _ (hb s H C cl fp) v7).1 false) (fold_set (nset v4)) (fun _ => fold_set (nset w4))).imp fun D σ H q => ?_
      have r := lc2_go (subN_iff v2) (subN_iff w1) (asg_go hl q)
      rw [← oe] at r
      exact r
    | [], v => simp [chk] at v
    | [_], v => simp [chk] at v
    | _ :: _ :: _ :: _, v => simp [chk] at v
  | con k => cases k <;> simp [chk, conE] at v
  | _ => simp [chk] at v
variable (S : Sg) (G : Cfg) (N : Nat)
mutual
theorem ok_s : ∀ (s : Sm) (c : CE) (X : Cx) (st : Stmt), CtxS S G c X → chkS S s c st = true → PS X st (tS X.K G N X.N.length s)
  | .asg own i e, c, X, st, h, v => by
    simp only [chkS] at v
    split at v
    · rename_i x p ex pos
      simp only [Bool.and_eq_true] at v
      obtain ⟨⟨⟨v1, v2⟩, v3⟩, v4⟩ := v
      have hl := h.toCtx.loc v2
      cases hsw : swB c x p ex with
      | false => exact s_asg rfl h.nd (h.toCtx.at v1) hl.1 hl.2 ((ok_e S G e c X _ h.toCtx v4).1 false) ((sw_name h (not_tt v3)).trans (by rw [hsw]))
      | true =>
        have q := sw_name (p := p) (l := pos.line) (x := x) h (not_tt v3)
        rw [hsw] at q
        cases ex <;> first | (cases hsw; done) | skip
        rename_i elt gs scope lp
        have hl : lcl c x = true := by
          simp only [swB, Bool.and_eq_true] at hsw
          exact hsw.1.1
        exact asgLc h (h.toCtx.at v1) q (lcl_iff h hl) v4
    · cases v
  | .asgp p e, c, X, st, h, v => by
    simp only [chkS] at v
    split at v
    · rename_i tg ex pos
      simp only [Bool.and_eq_true] at v
      obtain ⟨⟨⟨⟨v1, v2⟩, v3⟩, v4⟩, v5⟩ := v
      have q := ok_p h.toCtx p _ v1
      cases tg <;> first | (cases v2; done) | skip
      exact s_asgp q ((ok_e S G e c X _ h.toCtx v5).1 false) (by rename_i ts kk pp; exact sw_tup (ex := ex) (ts := ts) (k := kk) (p := pp) (l := pos.line) (env := X.env)) (no_swap v4) rfl
    · cases v
  | .par is es, c, X, st, h, v => by
    simp only [chkS] at v
    split at v
    · split at v
      · simp only [Bool.and_eq_true, decide_eq_true_eq] at v
        obtain ⟨⟨⟨⟨⟨⟨⟨⟨⟨⟨v1, v2⟩, v3⟩, v4⟩, v5⟩, v6⟩, v7⟩, v8⟩, v9⟩, v10⟩, v11⟩ := v
        have hx := h.toCtx.at v1
        have hy := h.toCtx.at v2
        have ne : ∀ {i j : Nat} {x y : Str}, X.N[i]? = some x → X.N[j]? = some y → i ≠ j → (y == x) = false := fun {i j x y} a b n => by
          rw [beq_eq_false_iff_ne]
          intro z
          subst z
          exact n (nodup_ix h.nd a b)
        exact s_par2 rfl h.calm h.nd hx hy v5 (lcl_iff h v3) (lcl_iff h v4) ((ok_es S G es c X _ h.toCtx v11).1 false) (swap2 h v3 v4 (ne hx hy v5) v6 (not_tt v7) (not_tt v8) (not_tt v9) (not_tt v10))
      · cases v
    · split at v
      · simp only [Bool.and_eq_true, decide_eq_true_eq] at v
        obtain ⟨⟨⟨⟨⟨⟨⟨⟨⟨⟨⟨⟨⟨⟨⟨⟨v1, v2⟩, v3⟩, u1⟩, u2⟩, u3⟩, d1⟩, d2⟩, d3⟩, l1⟩, l2⟩, s1⟩, s2⟩, s3⟩, f1⟩, f2⟩, v11⟩ := v
        have hx := h.toCtx.at v1
        have hy := h.toCtx.at v2
        have hz := h.toCtx.at v3
        have ne : ∀ {i j : Nat} {x y : Str}, X.N[i]? = some x → X.N[j]? = some y → i ≠ j → (y == x) = false := fun {i j x y} a b n => by
          rw [beq_eq_false_iff_ne]
          intro z
          subst z
          exact n (nodup_ix h.nd a b)
        exact s_par3 rfl h.calm h.nd hx hy hz d1 d2 d3 (lcl_iff h u1) (lcl_iff h u2) (lcl_iff h u3) ((ok_es S G es c X _ h.toCtx v11).1 false) (swap3 h u1 u2 u3 (ne hx hy d1) (ne hx hz d2) (ne hy hz d3) l1 l2 (not_tt s1) (not_tt s2) (not_tt s3) (not_tt f1) (not_tt f2))
      · cases v
    · cases v
  | .app i e, c, X, st, h, v => by
    simp only [chkS] at v
    split at v
    · simp only [Bool.and_eq_true, decide_eq_true_eq] at v
      obtain ⟨⟨⟨⟨⟨⟨rfl, v1⟩, v2⟩, v3⟩, v4⟩, v5⟩, v6⟩ := v
      exact s_app (h.toCtx.at v1) (h.toCtx.vis v2) (dbg1 v3) (dbg2 v3) ((ok_e S G e c X _ h.toCtx v6).1 false) (not_tt v4) v5
    · cases v
  | .ext i e, c, X, st, h, v => by
    simp only [chkS] at v
    split at v
    · simp only [Bool.and_eq_true, decide_eq_true_eq] at v
      obtain ⟨⟨⟨⟨⟨⟨rfl, v1⟩, v2⟩, v3⟩, v4⟩, v5⟩, v6⟩ := v
      exact s_ext (h.toCtx.at v1) (h.toCtx.vis v2) (dbg1 v3) (dbg2 v3) ((ok_e S G e c X _ h.toCtx v6).1 true) (not_tt v4) v5
    · cases v
  | .seti i k w, c, X, st, h, v => by
    simp only [chkS] at v
    split at v
    · simp only [Bool.and_eq_true, decide_eq_true_eq] at v
      obtain ⟨⟨⟨⟨⟨v1, v2⟩, v3⟩, v4⟩, v5⟩, v6⟩ := v
      refine s_seti (h.toCtx.at v1) (h.toCtx.vis v2) (dbg1 v3) (dbg2 v3) ((ok_e S G k c X _ h.toCtx v5).1 false) ((ok_e S G w c X _ h.toCtx v6).1 false) (not_tt v4) sw_subS ?_
      rfl
    · cases v
  | .own2 i n, c, X, st, h, v => by
    simp only [chkS] at v
    split at v
    · simp only [Bool.and_eq_true, decide_eq_true_eq] at v
      obtain ⟨⟨⟨⟨v1, v2⟩, v3⟩, v4⟩, v5⟩ := v
      subst v3
      exact s_own2 rfl h.nd (h.toCtx.at v1) (h.toCtx.loc v2).1 (h.toCtx.loc v2).2 v5 v4
    · cases v
  | .app2 i k w, c, X, st, h, v => by
    simp only [chkS] at v
    split at v
    · simp only [Bool.and_eq_true, decide_eq_true_eq] at v
      obtain ⟨⟨⟨⟨⟨⟨⟨⟨rfl, v1⟩, v2⟩, v3⟩, v4⟩, v5⟩, v6⟩, v7⟩, v8⟩ := v
      exact s_app2 (h.toCtx.at v1) (h.toCtx.vis v2) (dbg1 v3) (dbg2 v3) ((ok_e S G k c X _ h.toCtx v7).1 false) (not_tt v4) ((ok_e S G w c X _ h.toCtx v8).1 false) (not_tt v5) v6
    · cases v
  | .newd tup i, c, X, st, h, v => by
    simp only [chkS] at v
    split at v
    · simp only [Bool.and_eq_true, decide_eq_true_eq] at v
      exact s_newd rfl h.nd (h.toCtx.at v.1) (h.toCtx.loc v.2).1 (h.toCtx.loc v.2).2
    · cases v
  | .put i k w, c, X, st, h, v => by
    simp only [chkS] at v
    split at v
    · simp only [Bool.and_eq_true, decide_eq_true_eq] at v
      obtain ⟨⟨⟨⟨v1, v2⟩, v3⟩, v5⟩, v6⟩ := v
      exact s_put (Nat.lt_of_le_of_lt (Nat.add_le_add_left (by decide : 1 ≤ 65) _) h.hu) (h.toCtx.at v1) (h.toCtx.vis v2) (dbg1 v3) (dbg2 v3) ((ok_e S G k c X _ h.toCtx v5).1 false) ((ok_e S G w c X _ h.toCtx v6).1 false) sw_sub
    · cases v
  | .aug i o e, c, X, st, h, v => by
    simp only [chkS] at v
    split at v
    · simp only [Bool.and_eq_true, Bool.or_eq_true, decide_eq_true_eq] at v
      obtain ⟨⟨⟨⟨v1, v2⟩, v3⟩, v4⟩, v5⟩ := v
      exact s_aug v1 v2 rfl h.nd (h.toCtx.at v3) (h.toCtx.loc v4).1 (h.toCtx.loc v4).2 ((ok_e S G e c X _ h.toCtx v5).1 false)
    · cases v
  | .ret e, c, X, st, h, v => by
    simp only [chkS] at v
    split at v
    · exact s_ret ((ok_e S G e c X _ h.toCtx v).1 false)
    · cases v
  | .retn, c, X, st, h, v => by
    simp only [chkS] at v
    split at v
    · exact s_retn
    · cases v
  | .ite x a b, c, X, st, h, v => by
    simp only [chkS] at v
    split at v
    · simp only [Bool.and_eq_true] at v
      obtain ⟨⟨⟨v1, v2⟩, v3⟩, v4⟩ := v
      exact s_ite ((ok_e S G x c X _ h.toCtx v2).2 v1) (ok_ss a c X _ h v3) (ok_ss b c X _ h v4)
    · cases v
  | .for p it b kill, c, X, st, h, v => by
    simp only [chkS] at v
    split at v
    · simp only [Bool.and_eq_true] at v
      obtain ⟨⟨⟨v1, v2⟩, v3⟩, v4⟩ := v
      exact s_for h.xe h.calm (ok_i S G it c X _ _ h.toCtx v2 false) (ok_p h.toCtx p _ v1) (ok_ss b c X _ h v4) (nset v3)
    · cases v
  | .whl x b kill, c, X, st, h, v => by
    simp only [chkS] at v
    split at v
    · simp only [Bool.and_eq_true] at v
      obtain ⟨⟨v1, v2⟩, v3⟩ := v
      exact s_whl h.xe ((ok_e S G x c X _ h.toCtx v2).2 v1) (ok_ss b c X _ h v3)
    · cases v
  | .brk, c, X, st, h, v => by
    simp only [chkS] at v
    split at v
    · exact s_brk
    · cases v
  | .cnt, c, X, st, h, v => by
    simp only [chkS] at v
    split at v
    · exact s_cnt
    · cases v
  | .pas, c, X, st, h, v => by
    simp only [chkS] at v
    split at v
    · exact s_pas
    · cases v
  | .exp e, c, X, st, h, v => by
    simp only [chkS] at v
    split at v
    · rw [Bool.and_eq_true] at v
      exact s_exp ((ok_e S G e c X _ h.toCtx v.2).1 false) (not_tt v.1)
    · cases v
  | .kil _, c, X, st, h, v => by cases v
  | .frz _, c, X, st, h, v => by cases v
  | .nev, c, X, st, h, v => s_nev
theorem ok_ss : ∀ (ss : Sms) (c : CE) (X : Cx) (sts : List Stmt), CtxS S G c X → chkSs S ss c sts = true → PSs X sts (tSs X.K G N X.N.length ss)
  | .nil, c, X, sts, h, v => by
    simp only [chkSs] at v
    split at v
    · exact ss_nil
    · cases v
  | .cons s ss, c, X, sts, h, v => by
    simp only [chkSs] at v
    split at v
    · rename_i hp
      have ih := ok_ss ss c X sts h v
      cases s <;> first
        | (cases hp; done)
        | exact ss_kil ih
        | exact ss_frz ih
    · split at v
      · rw [Bool.and_eq_true] at v
        exact ss_cons (ok_s s c X _ h v.1) (ok_ss ss c X _ h v.2)
      · cases v
end
end

/-! ### defs -/
structure FD where
  nm : Str
  d : PDef
  N : List Str
  st : Stmt
def FD.ps (f : FD) : List Str := f.N.take f.d.np
def tabOf (L : List FD) : Tab := L.map fun f => (f.nm, f.d)
def chkFD (S : Sg) (f : FD) : Bool := decide (f.N.length = f.d.nn) && decide (f.d.np ≤ f.d.nn) && decide f.N.Nodup && (match (defScope f.st).kind with | .function => true | _ => false) && !(defScope f.st).isCoroutine && !(defScope f.st).isGenerator &&
  (f.ps.all fun x => decide ((defScope f.st).names.lookup x = some .local) || decide ((defScope f.st).names.lookup x = some .cell)) && ((defScope f.st).names.all fun y => !decide (y.2 = .free)) && chkSs S f.d.body ⟨f.N, defScope f.st, fun _ => true⟩ (defBody f.st)
theorem lookup_of {L : List FD} (nd : (L.map FD.nm).Nodup) {f : FD} (h : f ∈ L) : (tabOf L).lookup f.nm = some f.d := by
  induction L with
  | nil => cases h
  | cons g L ih =>
    have nd' := List.nodup_cons.mp nd
    show List.lookup f.nm ((g.nm, g.d) :: tabOf L) = _
    rcases List.mem_cons.mp h with rfl | h
    · rw [List.lookup_cons]; simp
    · have ne : (f.nm == g.nm) = false := by
        rw [beq_eq_false_iff_ne]
        intro z
        exact nd'.1 (z ▸ List.mem_map_of_mem h)
      rw [List.lookup_cons, ne]
      exact ih nd'.2 h
/-- what the top has written -/
structure Top (L : List FD) (S : Sg) (K : PySem.W.Frag) (mg : Str → Option Value) : Prop where
  nd : (L.map FD.nm).Nodup
  ok : ∀ f ∈ L, chkFD S f = true
  sub : ∀ n ∈ S.fs, ∃ f ∈ L, f.nm = n
  fn : ∀ f ∈ L, ∃ a fd, Fun K f.nm f.nm f.st a fd ∧ mg f.nm = some (.ref a) ∧ Binds K fd f.ps []
  bn : ∀ n ∈ bns, mg n = none
  gcd : S.gcd = true → mg "gcd" = some (.builtin "math.gcd")
  gl : ∀ p ∈ S.gl, ∃ t, mg p.1 = some (.int p.2 t)
theorem rep_get {α : Type} (n i : Nat) (a : α) : (List.replicate n a)[i]? = if i < n then some a else none := by
  rw [List.getElem?_replicate]
section
variable {P : Program} {w : World} {K : PySem.W.Frag} {mg : Str → Option Value} {base : Heap} {L : List FD} {S : Sg}
theorem start_eo {O : Addr → Prop} {H : Hp} {vs : List V} {ds : List Pv.D} {N : List Str} {n : Nat} (r : Rps K (hid O H) vs ds) (hl : vs.length ≤ N.length) (hn : ds.length = n) : EO K N.length O H (L2.start N vs) (ds.map .val ++ List.replicate (N.length - n) .no) (fun _ => []) := by
  have hvd := r.length
  refine ⟨by unfold L2.start; rw [List.length_append, List.length_map, List.length_replicate]; omega, fun i => ?_, fun i a z => (nomatch z), fun i j a z => (nomatch z)⟩
  have e1 : (ds.map Ent.val ++ List.replicate (N.length - n) Ent.no).getD i .no = if h : i < ds.length then .val ds[i] else .no := by
    rw [List.getD_eq_getElem?_getD]
    by_cases h : i < ds.length
    · rw [List.getElem?_append_left (by rw [List.length_map]; exact h), List.getElem?_map, List.getElem?_eq_getElem h, dif_pos h]; rfl
    · rw [List.getElem?_append_right (by rw [List.length_map]; omega), rep_get, dif_neg h]
      split <;> rfl
  rw [e1]
  split
  · rename_i h
    obtain ⟨v, e2, r1⟩ := r.get (List.getElem?_eq_getElem h)
    refine ⟨v, at'_of ?_, r1⟩
    unfold L2.start
    rw [List.getElem?_append_left (by rw [List.length_map, hvd]; exact h), List.getElem?_map, e2]
    rfl
  · trivial
theorem cal_len {T : Tab} {N k : Nat} {n : Str} {d : PDef} (hl : T.lookup n = some d) {ds : List Pv.D} {v : Pv.D} (e : cal T N k n ds = some v) : ds.length = d.np := by
  cases k with
  | zero => cases e
  | succ k =>
    simp only [cal, hl, Option.bind_some] at e
    unfold runDef at e
    split at e
    · assumption
    · cases e
theorem frs_of {T : Tab} {n : Str} {d : PDef} (hl : T.lookup n = some d) : T.frs n = d.fr := by
  unfold Tab.frs; rw [hl]
theorem ps_len {f : FD} (ok : chkFD S f = true) : f.ps.length = f.d.np ∧ f.d.np ≤ f.N.length ∧ f.N.length = f.d.nn := by
  unfold chkFD at ok
  simp only [Bool.and_eq_true, decide_eq_true_eq] at ok
  obtain ⟨⟨⟨⟨⟨⟨⟨⟨h1, h2⟩, _⟩, _⟩, _⟩, _⟩, _⟩, _⟩, _⟩ := ok
  unfold FD.ps
  refine ⟨by rw [List.length_take]; omega, by omega, h1⟩
theorem all_ok (T : Top L S K mg) (Nf : Nat) : ∀ (k : Nat) (f : FD), f ∈ L → ∀ a fd, Fun K f.nm f.nm f.st a fd → FnOk P w K mg base CX0 k a fd f.ps (spD K (cal (tabOf L) Nf k f.nm) ((tabOf L).frs f.nm) f.ps.length)
  | 0, f, hf, a, fd, F => ⟨fun vs H Q E h => h.1, fun A outer s H args us vs Q E _ _ _ _ h => by
      obtain ⟨_, O, ds, d, _, _, e, _⟩ := h
      cases e⟩
  | k + 1, f, hf, a, fd, F => by
    have hlk := lookup_of T.nd hf
    have ok := T.ok f hf
    obtain ⟨pl, pn, pN⟩ := ps_len ok
    have ok' := ok
    unfold chkFD at ok'
    simp only [Bool.and_eq_true, decide_eq_true_eq] at ok'
    obtain ⟨⟨⟨⟨⟨⟨⟨⟨h1, h2⟩, h3⟩, h4⟩, h5⟩, h6⟩, h7⟩, h8⟩, h9⟩ := ok'
    have hk : (defScope f.st).kind = .function := by
      split at h4
      · assumption
      · cases h4
    refine F.ok (N := f.N) ⟨hk, not_tt h5, not_tt h6, h3, ?_, fun x hx => ?_, fun y hy z => ?_⟩ (fun vs H Q E h => h.1) fun cdv A outer s H vs Q E hr h => ?_
    · rw [pl]; rfl
    · have := List.all_eq_true.mp h7 x hx
      simpa using this
    · have := List.all_eq_true.mp h8 y hy
      rw [z] at this
      simp at this
    · obtain ⟨hlen, O, ds, d, om, rr, ec, post⟩ := h
      simp only [cal, hlk, Option.bind_some] at ec
      have hds : ds.length = f.d.np := by
        unfold runDef at ec
        split at ec
        · assumption
        · cases ec
      unfold runDef at ec
      rw [if_pos hds] at ec
      obtain ⟨r, er, e2⟩ := Option.bind_eq_some_iff.mp ec
      have cx : CtxS S ⟨cal (tabOf L) Nf k, (tabOf L).frs⟩ ⟨f.N, defScope f.st, fun _ => true⟩ (cxOf CX0 P w K mg base f.N f.nm (defScope f.st) a cdv A outer s H E).nox :=
        { calm := rfl, N := rfl, sc := rfl, fn := rfl, nd := h3, hu := by have := hr.un; show (A.deeper _).units + 65 < cLine; omega, bn := T.bn, gcd := T.gcd, gl := T.gl, kind := hk, xe := rfl,
          fs := fun n hn => by
            obtain ⟨g, hg, rfl⟩ := T.sub n hn
            obtain ⟨b, fd', F', m', B'⟩ := T.fn g hg
            refine ⟨k, b, fd', g.ps, all_ok T Nf k g hg b fd' F', hr, m', F'.kp, B', fun ds' d' e' => ?_⟩
            rw [cal_len (lookup_of T.nd hg) e', (ps_len (T.ok g hg)).1] }
      refine ⟨_, ok_ss S _ Nf f.d.body _ _ _ cx h9, O, H, O, _, fun _ => [], r, ⟨om, start_eo rr (by rw [hlen, pl]; exact pn) hds, Same.refl H, fun _ z => z, om, fun i a z => (nomatch z)⟩, by show exs _ Nf f.d.body (ds.map .val ++ List.replicate (f.N.length - f.d.np) .no) = some r; rw [pN]; exact er, ?_⟩
      obtain ⟨fl, ρ'⟩ := r
      rw [frs_of hlk] at post
      cases fl with
      | nx =>
        simp only [] at e2
        split at e2
        · cases e2
        · rename_i hfr
          cases e2
          exact fun O' σ' H' oa' so _ => post .non H' so.s .non fun z => absurd z hfr
      | brk => cases e2
      | cnt => cases e2
      | ret fr v =>
        simp only [] at e2
        split at e2
        · cases e2
        · rename_i hfr
          cases e2
          intro v' H' s1 r1 f1
          refine post v' H' s1 r1 fun z => f1 ?_
          rw [z] at hfr
          simpa using hfr
/-- the law's own promise -/
def spLaw (K : PySem.W.Frag) : Sp := fun vs H Q _ => ∃ (a : Addr) (ns : List Int), vs = [.ref a] ∧ SqL K H a (ns.map V.int) ∧ ns.length ≤ 63 ∧ ∀ H', Q (.bl true) H'
def scriptD (ns : List Int) : Pv.D := .dict [(.none, .list (ns.map .int))]
theorem law_ok (T : Top L S K mg) (Nf k : Nat) (hk : ∀ ns : List Int, ns.length ≤ 63 → cal (tabOf L) Nf k "law" [scriptD ns] = some (.bool true)) {f : FD} (hf : f ∈ L) (hn : f.nm = "law") (h1 : f.d.np = 1) {a : Addr} {fd : FuncData} (F : Fun K "law" "law" f.st a fd) : FnOk P w K mg base CX0 k a fd f.ps (spLaw K) := by
  have q := all_ok (P := P) (w := w) (base := base) T Nf k f hf a fd (by rw [hn]; exact F)
  refine q.imp fun vs H Q E h => ?_
  obtain ⟨b, ns, rfl, hS, hl, hq⟩ := h
  refine ⟨by rw [(ps_len (T.ok f hf)).1, h1]; rfl, fun _ => False, [scriptD ns], .bool true, fun a z => z.elim, ?_, by rw [hn]; exact hk ns hl, fun v H' s r _ => ?_⟩
  · refine .cons (.scr (Same.seq (fun c o e => hid_iff.mpr ⟨fun z => z, e⟩) hS)) .nil
  · cases r; exact hq H'
end
end Pv

set_option Elab.async false
set_option linter.all false
set_option maxRecDepth 100000
set_option maxHeartbeats 1000000
/-! Rows for evaluating: numbers, pairs, lists of them; loops. -/
namespace Pv
open PySem PySem.Spec PyProof.Rows L2

def eN (n : Nat) : D := .int (n : Int)
def eL (l : List Nat) : D := .list (l.map eN)
def eP (p : Nat × Nat) : D := .tuple [eN p.1, eN p.2]
def ePs (l : List (Nat × Nat)) : D := .list (l.map eP)
def eG (l : List (List Nat)) : D := .list (l.map eL)

/-! ### shapes -/
theorem lay_all {α : Type} (e : α → D) (h : ∀ a, (e a).canLay0 = true) : ∀ l : List α, PyData.canLayAll0 (l.map e) = true
  | [] => by simp [PyData.canLayAll0]
  | a :: l => by simp [PyData.canLayAll0, h a, lay_all e h l]
theorem dep_all {α : Type} (e : α → D) {n : Nat} (h : ∀ a, (e a).depth ≤ n) : ∀ l : List α, PyData.depthAll (l.map e) ≤ n
  | [] => by simp [PyData.depthAll]
  | a :: l => by
    have h1 := h a
    have h2 := dep_all e h l
    simp only [List.map_cons, PyData.depthAll]
    omega
theorem eN_lay (n : Nat) : (eN n).canLay0 = true := by unfold eN; simp [PyData.canLay0]
theorem eN_dep (n : Nat) : (eN n).depth ≤ 0 := by unfold eN; simp [PyData.depth]
theorem eL_lay (l : List Nat) : (eL l).canLay0 = true := by unfold eL; simp [PyData.canLay0, lay_all eN eN_lay]
theorem eL_dep (l : List Nat) : (eL l).depth ≤ 1 := by
  unfold eL
  have := dep_all eN eN_dep l
  simp only [PyData.depth]
  omega
theorem eP_lay (p : Nat × Nat) : (eP p).canLay0 = true := by unfold eP; simp [PyData.canLay0, PyData.canLayAll0, eN_lay]
theorem eP_dep (p : Nat × Nat) : (eP p).depth ≤ 1 := by
  unfold eP
  have h1 := eN_dep p.1
  have h2 := eN_dep p.2
  simp only [PyData.depth, PyData.depthAll]
  omega
theorem ePs_lay (l : List (Nat × Nat)) : (ePs l).canLay0 = true := by unfold ePs; simp [PyData.canLay0, lay_all eP eP_lay]
theorem ePs_dep (l : List (Nat × Nat)) : (ePs l).depth ≤ 2 := by
  unfold ePs
  have := dep_all eP eP_dep l
  simp only [PyData.depth]
  omega
theorem eG_lay (l : List (List Nat)) : (eG l).canLay0 = true := by unfold eG; simp [PyData.canLay0, lay_all eL eL_lay]
theorem eG_dep (l : List (List Nat)) : (eG l).depth ≤ 2 := by
  unfold eG
  have := dep_all eL eL_dep l
  simp only [PyData.depth]
  omega
theorem shaped_of {d : D} {n : Nat} (h : d.canLay0 = true) (h2 : d.depth ≤ n) (hn : n ≤ 64) : SeqAt.shaped d = true := by
  unfold SeqAt.shaped
  rw [h, decide_eq_true (Nat.le_trans h2 hn)]; rfl
theorem sh_int (i : Int) : SeqAt.shaped (.int i) = true := by simp [SeqAt.shaped, PyData.canLay0, PyData.depth]
theorem sh_bool (i : Bool) : SeqAt.shaped (.bool i) = true := by simp [SeqAt.shaped, PyData.canLay0, PyData.depth]
theorem sh_nil : SeqAt.shaped (.list []) = true := by simp [SeqAt.shaped, PyData.canLay0, PyData.depth, PyData.canLayAll0, PyData.depthAll]
theorem sh_N (n : Nat) : SeqAt.shaped (eN n) = true := shaped_of (eN_lay n) (eN_dep n) (by decide)
theorem sh_L (l : List Nat) : SeqAt.shaped (eL l) = true := shaped_of (eL_lay l) (eL_dep l) (by decide)
theorem sh_P (p : Nat × Nat) : SeqAt.shaped (eP p) = true := shaped_of (eP_lay p) (eP_dep p) (by decide)
theorem sh_Ps (l : List (Nat × Nat)) : SeqAt.shaped (ePs l) = true := shaped_of (ePs_lay l) (ePs_dep l) (by decide)
theorem sh_G (l : List (List Nat)) : SeqAt.shaped (eG l) = true := shaped_of (eG_lay l) (eG_dep l) (by decide)
theorem sh_GG (l : List (List (List Nat))) : SeqAt.shaped (.list (l.map eG)) = true := shaped_of (n := 3) (by simp [PyData.canLay0, lay_all eG eG_lay]) (by
  have := dep_all eG eG_dep l
  simp only [PyData.depth]
  omega) (by decide)

/-! ### == -/
theorem eqv_N (a b : Nat) : PyData.eqv (eN a) (eN b) = decide (a = b) := by
  unfold eN
  simp only [PyData.eqv]
  by_cases h : a = b
  · subst h; simp
  · rw [decide_eq_false h, beq_eq_false_iff_ne]
    omega
theorem eqvAll_map {α : Type} [DecidableEq α] (e : α → D) (h : ∀ a b, PyData.eqv (e a) (e b) = decide (a = b)) : ∀ l m : List α, PyData.eqvAll (l.map e) (m.map e) = decide (l = m)
  | [], [] => by simp [PyData.eqvAll]
  | [], _ :: _ => by simp [PyData.eqvAll]
  | _ :: _, [] => by simp [PyData.eqvAll]
  | a :: l, b :: m => by
    rw [List.map_cons, List.map_cons]
    simp only [PyData.eqvAll, h, eqvAll_map e h l m]
    by_cases h1 : a = b <;> by_cases h2 : l = m <;> simp [h1, h2]
theorem eqv_L (l m : List Nat) : PyData.eqv (eL l) (eL m) = decide (l = m) := by
  unfold eL
  simp only [PyData.eqv]
  exact eqvAll_map eN eqv_N l m
theorem eqv_P (p q : Nat × Nat) : PyData.eqv (eP p) (eP q) = decide (p = q) := by
  obtain ⟨a, b⟩ := p
  obtain ⟨c, d⟩ := q
  unfold eP
  simp only [PyData.eqv, PyData.eqvAll, eqv_N]
  by_cases h1 : a = c <;> by_cases h2 : b = d <;> simp [h1, h2]
theorem eqv_Ps (l m : List (Nat × Nat)) : PyData.eqv (ePs l) (ePs m) = decide (l = m) := by
  unfold ePs
  simp only [PyData.eqv]
  exact eqvAll_map eP eqv_P l m
theorem eqv_G (l m : List (List Nat)) : PyData.eqv (eG l) (eG m) = decide (l = m) := by
  unfold eG
  simp only [PyData.eqv]
  exact eqvAll_map eL eqv_L l m
theorem eqv_nil (xs : List D) : PyData.eqv (.list xs) (.list []) = xs.isEmpty := by
  simp only [PyData.eqv]
  cases xs <;> simp [PyData.eqvAll]
theorem any_in {α : Type} [DecidableEq α] (e : α → D) (h : ∀ a b, PyData.eqv (e a) (e b) = decide (a = b)) (x : α) : ∀ l : List α, ((l.map e).any fun z => PyData.eqv z (e x)) = decide (x ∈ l)
  | [] => by simp
  | a :: l => by
    rw [List.map_cons, List.any_cons, h, any_in e h x l]
    by_cases h1 : a = x
    · subst h1; simp
    · by_cases h2 : x ∈ l <;> simp [h1, h2, Ne.symm h1]

/-! ### operators on these -/
theorem o_eqI (i j : Int) : op2 .eq (.int i) (.int j) = some (.bool (decide (i = j))) := by
  simp only [op2, sh_int, Bool.and_self, if_true, PyData.eqv]
  congr 2
theorem o_neI (i j : Int) : op2 .ne (.int i) (.int j) = some (.bool (!decide (i = j))) := by
  simp only [op2, sh_int, Bool.and_self, if_true, PyData.eqv]
  congr 2
theorem o_eqB (i j : Bool) : op2 .eq (.bool i) (.bool j) = some (.bool (i == j)) := by
  simp only [op2, sh_bool, Bool.and_self, if_true, PyData.eqv]
theorem o_neB (i j : Bool) : op2 .ne (.bool i) (.bool j) = some (.bool (!(i == j))) := by
  simp only [op2, sh_bool, Bool.and_self, if_true, PyData.eqv]
theorem o_eqL (l m : List Nat) : op2 .eq (eL l) (eL m) = some (.bool (decide (l = m))) := by
  simp only [op2, sh_L, Bool.and_self, if_true, eqv_L]
theorem o_neL (l m : List Nat) : op2 .ne (eL l) (eL m) = some (.bool (!decide (l = m))) := by
  simp only [op2, sh_L, Bool.and_self, if_true, eqv_L]
theorem o_eqNil {xs : List D} (h : SeqAt.shaped (.list xs) = true) : op2 .eq (.list xs) (.list []) = some (.bool xs.isEmpty) := by
  simp only [op2, h, sh_nil, Bool.and_self, if_true, eqv_nil]
theorem o_neNil {xs : List D} (h : SeqAt.shaped (.list xs) = true) : op2 .ne (.list xs) (.list []) = some (.bool !xs.isEmpty) := by
  simp only [op2, h, sh_nil, Bool.and_self, if_true, eqv_nil]
theorem o_inL (a : Nat) (l : List Nat) : op2 .isIn (eN a) (eL l) = some (.bool (decide (a ∈ l))) := by
  have h : op2 .isIn (eN a) (eL l) = if SeqAt.shaped (eN a) && SeqAt.shaped (eL l) then some (.bool ((l.map eN).any fun z => PyData.eqv z (eN a))) else none := rfl
  rw [h, sh_N, sh_L, any_in eN eqv_N]; rfl
theorem o_ninL (a : Nat) (l : List Nat) : op2 .notIn (eN a) (eL l) = some (.bool (!decide (a ∈ l))) := by
  have h : op2 .notIn (eN a) (eL l) = if SeqAt.shaped (eN a) && SeqAt.shaped (eL l) then some (.bool (!(l.map eN).any fun z => PyData.eqv z (eN a))) else none := rfl
  rw [h, sh_N, sh_L, any_in eN eqv_N]; rfl
theorem o_inPs (a : Nat × Nat) (l : List (Nat × Nat)) : op2 .isIn (eP a) (ePs l) = some (.bool (decide (a ∈ l))) := by
  have h : op2 .isIn (eP a) (ePs l) = if SeqAt.shaped (eP a) && SeqAt.shaped (ePs l) then some (.bool ((l.map eP).any fun z => PyData.eqv z (eP a))) else none := rfl
  rw [h, sh_P, sh_Ps, any_in eP eqv_P, Bool.and_self, if_pos rfl]
  exact congrArg (fun b => some (PyData.bool b)) (decide_eq_decide.mpr Iff.rfl)
theorem o_ninPs (a : Nat × Nat) (l : List (Nat × Nat)) : op2 .notIn (eP a) (ePs l) = some (.bool (!decide (a ∈ l))) := by
  have h : op2 .notIn (eP a) (ePs l) = if SeqAt.shaped (eP a) && SeqAt.shaped (ePs l) then some (.bool (!(l.map eP).any fun z => PyData.eqv z (eP a))) else none := rfl
  rw [h, sh_P, sh_Ps, any_in eP eqv_P, Bool.and_self, if_pos rfl]
  exact congrArg (fun b => some (PyData.bool !b)) (decide_eq_decide.mpr Iff.rfl)
theorem o_ninT (a b c : Nat) : op2 .notIn (eN a) (.tuple [eN b, eN c]) = some (.bool (!(decide (b = a) || decide (c = a)))) := by
  have h : op2 .notIn (eN a) (.tuple [eN b, eN c]) = some (.bool (!([eN b, eN c].any fun z => PyData.eqv z (eN a)))) := rfl
  rw [h]
  simp only [List.any_cons, List.any_nil, eqv_N, Bool.or_false]
theorem o_inP (p : Nat × Nat) (a : Nat) : op2 .notIn (eN a) (eP p) = some (.bool (!(decide (p.1 = a) || decide (p.2 = a)))) := o_ninT a p.1 p.2

/-! ### lists -/
theorem ints_N : ∀ l : List Nat, toInts (l.map eN) = some (l.map Int.ofNat)
  | [] => rfl
  | a :: l => by
    show (toInts (l.map eN)).map ((a : Int) :: ·) = _
    rw [ints_N l]; rfl
theorem bools_B : ∀ l : List Bool, toBools (l.map .bool) = some l
  | [] => rfl
  | a :: l => by
    show (toBools (l.map .bool)).map (a :: ·) = _
    rw [bools_B l]; rfl
theorem lists_L : ∀ l : List (List D), toLists (l.map .list) = some l
  | [] => rfl
  | a :: l => by
    show (toLists (l.map .list)).map (a :: ·) = _
    rw [lists_L l]; rfl
theorem enum_map {α : Type} (e : α → D) : ∀ (l : List α) (n : Nat), enumD n (l.map e) = (l.zipIdx n).map fun p => .tuple [eN p.2, e p.1]
  | [], _ => rfl
  | a :: l, n => by
    show _ :: enumD (n + 1) (l.map e) = _
    rw [enum_map e l (n + 1)]; rfl
theorem zip_map {α β : Type} (e : α → D) (e' : β → D) : ∀ (l : List α) (m : List β), zipD (l.map e) (m.map e') = (l.zip m).map fun p => .tuple [e p.1, e' p.2]
  | [], _ => rfl
  | _ :: _, [] => rfl
  | a :: l, b :: m => by
    show _ :: zipD (l.map e) (m.map e') = _
    rw [zip_map e e' l m]; rfl
theorem rng_map (n : Nat) : rngD 0 n = (List.range n).map eN := by
  unfold rngD eN
  refine List.map_congr_left fun k _ => ?_
  rw [Int.zero_add]
theorem rng_map2 (a n : Nat) : rngD (a : Int) n = (List.range n).map fun k => eN (a + k) := by
  unfold rngD eN
  refine List.map_congr_left fun k _ => ?_
  rw [Int.natCast_add]
theorem at_map {α : Type} (e : α → D) (l : List α) (i : Nat) {a : α} (h : l[i]? = some a) : atI (l.map e) ((i : Nat) : Int) = some (e a) := by
  have hl : i < l.length := (List.getElem?_eq_some_iff.mp h).1
  unfold atI ixN
  rw [List.length_map, if_pos (by omega), if_pos (by omega)]
  show (l.map e)[((i : Int)).toNat]? = _
  rw [Int.toNat_natCast, List.getElem?_map, h]; rfl

/-! ### comprehensions and loops -/
theorem lcGo_fm {α β : Type} (f : D → Option (Option D)) (e : α → D) (e' : β → D) (g : α → Option β) : ∀ (xs : List α), (∀ x ∈ xs, f (e x) = some ((g x).map e')) → lcGo f (xs.map e) = some ((xs.filterMap g).map e')
  | [], _ => rfl
  | x :: xs, h => by
    rw [List.map_cons]
    simp only [lcGo, h x (List.mem_cons_self ..), Option.bind_some, lcGo_fm f e e' g xs fun y hy => h y (List.mem_cons_of_mem _ hy), Option.map_some]
    rw [List.filterMap_cons]
    cases g x <;> rfl
theorem lcGo_map {α β : Type} (f : D → Option (Option D)) (e : α → D) (e' : β → D) (g : α → β) (xs : List α) (h : ∀ x ∈ xs, f (e x) = some (some (e' (g x)))) : lcGo f (xs.map e) = some ((xs.map g).map e') := by
  rw [lcGo_fm f e e' (fun x => some (g x)) xs h, List.filterMap_eq_map']
theorem lcGo_filter {α : Type} (f : D → Option (Option D)) (e : α → D) (p : α → Bool) (xs : List α) (h : ∀ x ∈ xs, f (e x) = some (if p x then some (e x) else none)) : lcGo f (xs.map e) = some ((xs.filter p).map e) := by
  rw [lcGo_fm f e e (fun x => if p x then some x else none) xs fun x hx => by rw [h x hx]; cases p x <;> rfl]
  congr 2
  rw [← List.filterMap_eq_filter]
  rfl
theorem lcGo2_fm {α β : Type} (f : D → Option (List D)) (e : α → D) (e' : β → D) (g : α → List β) : ∀ (xs : List α), (∀ x ∈ xs, f (e x) = some ((g x).map e')) → lcGo2 f (xs.map e) = some ((xs.flatMap g).map e')
  | [], _ => rfl
  | x :: xs, h => by
    rw [List.map_cons]
    simp only [lcGo2, h x (List.mem_cons_self ..), Option.bind_some, lcGo2_fm f e e' g xs fun y hy => h y (List.mem_cons_of_mem _ hy), Option.map_some]
    rw [List.flatMap_cons, List.map_append]
/-- a loop that goes through -/
theorem forGo_fold {α S : Type} (f : D → En → Option (Fl × En)) (kill : List Nat) (e : α → D) (en : S → En) (st : S → α → S) : ∀ (xs : List α) (s : S), (∀ s x, x ∈ xs → ∃ fl ρ', f (e x) (en s) = some (fl, ρ') ∧ (fl = .nx ∨ fl = .cnt) ∧ wipeE ρ' kill = en (st s x)) → forGo f kill (xs.map e) (en s) = some (.nx, en (xs.foldl st s))
  | [], s, _ => rfl
  | x :: xs, s, h => by
    obtain ⟨fl, ρ', h1, h2, h3⟩ := h s x (List.mem_cons_self ..)
    have ih := forGo_fold f kill e en st xs (st s x) fun s y hy => h s y (List.mem_cons_of_mem _ hy)
    rw [List.map_cons]
    simp only [forGo, h1, Option.bind_some]
    rw [← h3] at ih
    rcases h2 with rfl | rfl
    · exact ih
    · exact ih
theorem forGo_const {α : Type} (f : D → En → Option (Fl × En)) (kill : List Nat) (e : α → D) (ρ : En) (xs : List α) (h : ∀ x ∈ xs, ∃ fl ρ', f (e x) ρ = some (fl, ρ') ∧ (fl = .nx ∨ fl = .cnt) ∧ wipeE ρ' kill = ρ) : forGo f kill (xs.map e) ρ = some (.nx, ρ) := by
  have q := forGo_fold f kill e (fun _ : Unit => ρ) (fun _ _ => ()) xs () fun _ x hx => h x hx
  exact q
def turnE (kill : List Nat) (o : Option (Fl × En)) : Option En := o.bind fun r => match r.1 with
  | .nx => some (wipeE r.2 kill)
  | .cnt => some (wipeE r.2 kill)
  | _ => none
theorem turnE_nx {kill : List Nat} {ρ : En} : turnE kill (some (.nx, ρ)) = some (wipeE ρ kill) := rfl
theorem turnE_cnt {kill : List Nat} {ρ : En} : turnE kill (some (.cnt, ρ)) = some (wipeE ρ kill) := rfl
theorem turnE_some {kill : List Nat} {o : Option (Fl × En)} {ρ : En} (h : turnE kill o = some ρ) : ∃ fl ρ', o = some (fl, ρ') ∧ (fl = .nx ∨ fl = .cnt) ∧ wipeE ρ' kill = ρ := by
  obtain ⟨⟨fl, ρ'⟩, e, h2⟩ := Option.bind_eq_some_iff.mp h
  cases fl <;> first
    | (cases h2; done)
    | skip
  · exact ⟨.nx, ρ', e, .inl rfl, Option.some.inj h2⟩
  · exact ⟨.cnt, ρ', e, .inr rfl, Option.some.inj h2⟩
theorem forGo_c {α : Type} (f : D → En → Option (Fl × En)) (kill : List Nat) (e : α → D) (ρ : En) (xs : List α) (h : ∀ x ∈ xs, turnE kill (f (e x) ρ) = some ρ) : forGo f kill (xs.map e) ρ = some (.nx, ρ) :=
  forGo_const f kill e ρ xs fun x hx => turnE_some (h x hx)
theorem forGo_f {α S : Type} (f : D → En → Option (Fl × En)) (kill : List Nat) (e : α → D) (en : S → En) (st : S → α → S) (xs : List α) (s : S) (h : ∀ s x, x ∈ xs → turnE kill (f (e x) (en s)) = some (en (st s x))) : forGo f kill (xs.map e) (en s) = some (.nx, en (xs.foldl st s)) :=
  forGo_fold f kill e en st xs s fun s x hx => turnE_some (h s x hx)
theorem forGo_i {α S : Type} (f : D → En → Option (Fl × En)) (kill : List Nat) (e : α → D) (en : S → En) (st : S → α → S) (Iv : S → Prop) (xs : List α) (s : S) (i : Iv s) (h : ∀ s x, x ∈ xs → Iv s → turnE kill (f (e x) (en s)) = some (en (st s x)) ∧ Iv (st s x)) : forGo f kill (xs.map e) (en s) = some (.nx, en (xs.foldl st s)) ∧ Iv (xs.foldl st s) := by
  have q : forGo f kill (xs.map e) (en s) = some (.nx, en (xs.foldl st s)) ∧ Iv (xs.foldl st s) := by
    induction xs generalizing s with
    | nil => exact ⟨rfl, i⟩
    | cons x xs ih =>
      obtain ⟨h1, h2⟩ := h s x (List.mem_cons_self ..) i
      obtain ⟨fl, ρ', e1, e2, e3⟩ := turnE_some h1
      have ih' := ih (st s x) h2 fun s y hy => h s y (List.mem_cons_of_mem _ hy)
      refine ⟨?_, ih'.2⟩
      rw [List.map_cons]
      simp only [forGo, e1, Option.bind_some]
      rw [← e3] at ih'
      rcases e2 with rfl | rfl
      · exact ih'.1
      · exact ih'.1
  exact q
theorem fm_if {α β : Type} (c : α → Prop) [DecidablePred c] (g : α → β) : ∀ l : List α, (l.filterMap fun p => if c p then some (g p) else none) = (l.filter fun p => decide (c p)).map g
  | [] => rfl
  | a :: l => by
    have ih := fm_if c g l
    by_cases h : c a <;> simp [h, ih]
theorem zip_fst {α : Type} : ∀ (l : List α) (n : Nat), (l.zipIdx n).map (fun q => q.1) = l
  | [], _ => rfl
  | a :: l, n => by rw [List.zipIdx_cons, List.map_cons, zip_fst l (n + 1)]
/-- the same, with what holds of the states -/
theorem forGo_inv {α S : Type} (f : D → En → Option (Fl × En)) (kill : List Nat) (e : α → D) (en : S → En) (st : S → α → S) (Iv : S → Prop) : ∀ (xs : List α) (s : S), Iv s → (∀ s x, x ∈ xs → Iv s → ∃ fl ρ', f (e x) (en s) = some (fl, ρ') ∧ (fl = .nx ∨ fl = .cnt) ∧ wipeE ρ' kill = en (st s x) ∧ Iv (st s x)) → forGo f kill (xs.map e) (en s) = some (.nx, en (xs.foldl st s)) ∧ Iv (xs.foldl st s)
  | [], s, i, _ => ⟨rfl, i⟩
  | x :: xs, s, i, h => by
    obtain ⟨fl, ρ', h1, h2, h3, h4⟩ := h s x (List.mem_cons_self ..) i
    have ih := forGo_inv f kill e en st Iv xs (st s x) h4 fun s y hy => h s y (List.mem_cons_of_mem _ hy)
    rw [List.map_cons]
    simp only [forGo, h1, Option.bind_some]
    rw [← h3] at ih
    rcases h2 with rfl | rfl
    · exact ⟨ih.1, ih.2⟩
    · exact ⟨ih.1, ih.2⟩
/-- a loop that may return: at the first that p holds of -/
theorem forGo_find {α : Type} (f : D → En → Option (Fl × En)) (kill : List Nat) (e : α → D) (ρ : En) (p : α → Bool) (r : α → Fl × En) (hr : ∀ x, ∃ fr d, (r x).1 = .ret fr d) : ∀ (xs : List α), (∀ x ∈ xs, p x = true → f (e x) ρ = some (r x)) → (∀ x ∈ xs, p x = false → ∃ fl ρ', f (e x) ρ = some (fl, ρ') ∧ (fl = .nx ∨ fl = .cnt) ∧ wipeE ρ' kill = ρ) →
    forGo f kill (xs.map e) ρ = some (match xs.find? p with | some x => r x | none => (.nx, ρ))
  | [], _, _ => rfl
  | x :: xs, h1, h2 => by
    rw [List.map_cons, List.find?_cons]
    simp only [forGo]
    cases hp : p x with
    | true =>
      rw [h1 x (List.mem_cons_self ..) hp]
      obtain ⟨fr, d, hd⟩ := hr x
      generalize hz : r x = z at hd ⊢
      obtain ⟨fl, ρ'⟩ := z
      simp only at hd
      subst hd
      show some _ = some (r x)
      rw [hz]
    | false =>
      obtain ⟨fl, ρ', e1, e2, e3⟩ := h2 x (List.mem_cons_self ..) hp
      rw [e1]
      have ih := forGo_find f kill e ρ p r hr xs (fun y hy => h1 y (List.mem_cons_of_mem _ hy)) fun y hy => h2 y (List.mem_cons_of_mem _ hy)
      simp only [Option.bind_some]
      rcases e2 with rfl | rfl
      · simp only [e3]; exact ih
      · simp only [e3]; exact ih
end Pv

set_option Elab.async false
set_option linter.all false
set_option maxRecDepth 100000
set_option maxHeartbeats 1000000
/-! Rows that simp evaluates with. -/
namespace Pv
open PySem PySem.Spec PyProof.Rows L2

def seqL : D → Option (List D)
  | .list xs => some xs
  | _ => none
section
variable {G : Cfg} {N : Nat} {b : Bool} {ρ r : En} {e0 : Ent} {d : D} {ds xs ys : List D} {i j : Nat} {x y z u : Xp} {es : Xps} {p : Pat} {ps : Pats}
theorem rd_0 : rd b (.val d :: r) 0 = some d := rfl
theorem rd_o : rd true (.own ds :: r) 0 = some (.list ds) := rfl
theorem rd_of : rd false (.own ds :: r) 0 = none := rfl
theorem rd_s : rd b (e0 :: r) (i + 1) = rd b r i := rfl
theorem gO_0 : getO (.own ds :: r) 0 = some ds := rfl
theorem gO_s : getO (e0 :: r) (i + 1) = getO r i := rfl
theorem gO2_0 {dss : List (List D)} : getO2 (.own2 dss :: r) 0 = some dss := rfl
theorem gO2_s : getO2 (e0 :: r) (i + 1) = getO2 r i := rfl
theorem bp_nm : bindPat (.nm i) d ρ = some (ρ.set i (.val d)) := rfl
theorem bp_tp : bindPat (.tp ps) (.tuple ds) ρ = bindPats ps ds ρ := rfl
theorem bps_nil : bindPats .nil [] ρ = some ρ := rfl
theorem bps_cons : bindPats (.cons p ps) (d :: ds) ρ = (bindPat p d ρ).bind fun ρ' => bindPats ps ds ρ' := rfl
theorem bp_eP {q : Nat × Nat} : bindPat (.tp ps) (eP q) ρ = bindPats ps [.int (q.1 : Int), .int (q.2 : Int)] ρ := rfl
/-! expressions -/
theorem v_var : ev G b (.var i) ρ = rd b ρ i := rfl
theorem v_int {n : Int} : ev G b (.con (.int n)) ρ = some (.int n) := rfl
theorem v_bool {n : Bool} : ev G b (.con (.bool n)) ρ = some (.bool n) := rfl
theorem v_str {n : Str} : ev G b (.con (.str n)) ρ = some (.str n) := rfl
theorem v_none : ev G b (.con .none) ρ = some .none := rfl
theorem v_glb {s : Str} {n : Int} : ev G b (.glb s n) ρ = some (.int n) := rfl
theorem v_op {o : O2} : ev G b (.op o x y) ρ = (ev G true x ρ).bind fun dx => (ev G true y ρ).bind fun dy => op2 o dx dy := rfl
theorem v_ch {o o2 : O2} : ev G b (.ch o o2 x y z) ρ = (ev G true x ρ).bind fun dx => (ev G true y ρ).bind fun dy => (op2 o dx dy).bind fun r => (asBool r).bind fun t =>
      if t then (ev G true z ρ).bind fun dz => op2 o2 dy dz else some (.bool false) := rfl
theorem v_ch3 {o o2 o3 : O2} : ev G b (.ch3 o o2 o3 x y z u) ρ = (ev G true x ρ).bind fun dx => (ev G true y ρ).bind fun dy => (op2 o dx dy).bind fun r => (asBool r).bind fun t =>
      if t then (ev G true z ρ).bind fun dz => (op2 o2 dy dz).bind fun r2 => (asBool r2).bind fun t2 =>
        if t2 then (ev G true u ρ).bind fun du => op2 o3 dz du else some (.bool false)
      else some (.bool false) := rfl
theorem v_neg : ev G b (.neg x) ρ = (ev G false x ρ).bind fun d => (asInt d).map fun i => .int (-i) := rfl
theorem v_not : ev G b (.not x) ρ = (ev G false x ρ).bind fun d => (asBool d).map fun t => .bool (!t) := rfl
theorem v_and : ev G b (.bool true (.cons x (.cons y es))) ρ = (ev G false x ρ).bind fun d => (asBool d).bind fun t => if t then ev G false (.bool true (.cons y es)) ρ else some (.bool false) := by
  show evBool G true (.cons x (.cons y es)) ρ = _
  simp only [evBool]
  congr 1; funext d; congr 1; funext t
  cases t <;> rfl
theorem v_or : ev G b (.bool false (.cons x (.cons y es))) ρ = (ev G false x ρ).bind fun d => (asBool d).bind fun t => if t then some (.bool true) else ev G false (.bool false (.cons y es)) ρ := by
  show evBool G false (.cons x (.cons y es)) ρ = _
  simp only [evBool]
  congr 1; funext d; congr 1; funext t
  cases t <;> rfl
theorem v_b1 {k : Bool} : ev G b (.bool k (.cons x .nil)) ρ = ev G false x ρ := rfl
theorem v_ife : ev G b (.ife x y z) ρ = (ev G false x ρ).bind fun d => (asBool d).bind fun t => if t then ev G false y ρ else ev G false z ρ := rfl
theorem v_tup : ev G b (.tup es) ρ = (evs G false es ρ).bind fun ds => if ds.length ≤ line then some (.tuple ds) else none := rfl
theorem v_lst : ev G b (.lst es) ρ = (evs G false es ρ).bind fun ds => if ds.length ≤ line then some (.list ds) else none := rfl
theorem v_idx : ev G b (.idx x y) ρ = (ev G true x ρ).bind fun d => (ev G false y ρ).bind fun k => (seqIx d).bind fun xs => (asInt k).bind fun j => L2.atI xs j := rfl
theorem v_bi {f : Bi} : ev G b (.bi f es) ρ = (evs G (bib f) es ρ).bind fun ds => Pv.bi f ds := rfl
theorem v_call {f : Str} : ev G b (.call f es) ρ = (evs G false es ρ).bind fun ds => G.C f ds := rfl
theorem v_callB {f : Str} : ev G b (.callB f es) ρ = (evs G true es ρ).bind fun ds => (G.C f ds).bind fun d => if flatRes (G.Fr f) d then some d else none := rfl
theorem v_rev : ev G b (.rev x) ρ = (ev G true x ρ).bind fun d => match d with
    | .list xs => some (.list xs.reverse)
    | _ => none := rfl
theorem v_cut {lo hi : Option Xp} : ev G b (.cut x lo hi) ρ = (ev G true x ρ).bind fun d => (evPart G lo ρ).bind fun l => (evPart G hi ρ).bind fun h => (seqL d).bind fun xs => some (.list (cutD xs l h)) := by
  simp only [ev]
  congr 1; funext d; congr 1; funext l; congr 1; funext h
  cases d <;> rfl
theorem v_p0 : evPart G none ρ = some none := rfl
theorem v_p1 : evPart G (some x) ρ = (ev G false x ρ).bind fun d => (asInt d).map some := rfl
theorem vs_nil : evs G b .nil ρ = some [] := rfl
theorem vs_cons : evs G b (.cons x es) ρ = (ev G b x ρ).bind fun d => (evs G b es ρ).map fun ds => d :: ds := rfl
theorem f_0 : evIfs G .nil ρ = some true := rfl
theorem f_1 : evIfs G (.cons x .nil) ρ = (ev G false x ρ).bind asBool := rfl
theorem i_s : evIt G b (.seq x) ρ = (ev G b x ρ).bind seqOf := rfl
theorem i_r1 : evIt G b (.rng (.cons x .nil)) ρ = (ev G false x ρ).bind fun d => (asInt d).bind fun n => if rngOk n then some (rngD 0 n.toNat) else none := by
  simp only [evIt, evs]
  cases ev G false x ρ with
  | none => rfl
  | some d => cases d <;> rfl
theorem i_r2 : evIt G b (.rng (.cons x (.cons y .nil))) ρ = (ev G false x ρ).bind fun d => (ev G false y ρ).bind fun d2 => (asInt d).bind fun a => (asInt d2).bind fun n => if rngOk a && rngOk n then some (rngD a (n - a).toNat) else none := by
  simp only [evIt, evs]
  cases ev G false x ρ with
  | none => rfl
  | some d =>
    cases ev G false y ρ with
    | none => rfl
    | some d2 => cases d <;> cases d2 <;> rfl
theorem i_e : evIt G b (.enum x) ρ = (ev G b x ρ).bind fun d => (seqL d).bind fun xs => some (enumD 0 xs) := by
  simp only [evIt]
  congr 1; funext d
  cases d <;> rfl
theorem i_z : evIt G b (.zip x y) ρ = (ev G b x ρ).bind fun d => (ev G b y ρ).bind fun d2 => (seqL d).bind fun xs => (seqL d2).bind fun ys => some (zipD xs ys) := by
  simp only [evIt]
  congr 1; funext d; congr 1; funext d2
  cases d <;> cases d2 <;> rfl
theorem v_lc {e : Xp} {it : Xi} {ifs : Xps} {own : List Nat} : ev G b (.lc e p it ifs own) ρ = (evIt G true it ρ).bind fun xs => (lcGo (elOf G ρ e p ifs own) xs).bind fun ys => if ys.length < line then some (.list ys) else none := rfl
theorem v_lc2 {e : Xp} {it it2 : Xi} {ifs ifs2 : Xps} {p2 : Pat} {own own2 : List Nat} : ev G b (.lc2 e p it ifs p2 it2 ifs2 own own2) ρ = (evIt G true it ρ).bind fun xs => (lcGo2 (el2Of G ρ e p ifs own it2 p2 ifs2 own2) xs).bind fun ys => if ys.length < line then some (.list ys) else none := rfl
theorem v_ssc {e : Xp} {it : Xi} {ifs : Xps} {own : List Nat} : ev G b (.ssc e p it ifs own) ρ = (evIt G true it ρ).bind fun xs => (lcGo (elOf G ρ e p ifs own) xs).bind fun ys => if ys.length < 1000 then setI ys else none := rfl
theorem v_ssc2 {e : Xp} {it it2 : Xi} {ifs ifs2 : Xps} {p2 : Pat} {own own2 : List Nat} : ev G b (.ssc2 e p it ifs p2 it2 ifs2 own own2) ρ = (evIt G true it ρ).bind fun xs => (lcGo2 (el2Of G ρ e p ifs own it2 p2 ifs2 own2) xs).bind fun ys => if ys.length < 1000 then setI ys else none := rfl
theorem v_sst : ev G b (.sst x) ρ = (ev G true x ρ).bind fun d => (seqL d).bind fun xs => if xs.length < 1000 then setI xs else none := by
  simp only [ev]
  congr 1; funext d
  cases d <;> rfl
theorem v_lset : ev G b (.lset x) ρ = (ev G true x ρ).bind fun d => (seqL d).bind fun xs => if xs.length < 1000 then (toInts xs).map fun is => .int (dedupI is).length else none := by
  simp only [ev]
  congr 1; funext d
  cases d <;> rfl
/-! statements -/
variable {s : Sm} {ss a c : Sms} {kill is : List Nat} {it : Xi}
theorem x_nil : exs G N .nil ρ = some (.nx, ρ) := rfl
def thenS (G : Cfg) (N : Nat) (ss : Sms) : Fl × En → Option (Fl × En)
  | (.nx, ρ') => exs G N ss ρ'
  | r => some r
theorem x_cons : exs G N (.cons s ss) ρ = (ex G N s ρ).bind (thenS G N ss) := by
  simp only [exs]
  congr 1
theorem t_nx : thenS G N ss (.nx, ρ) = exs G N ss ρ := rfl
theorem t_brk : thenS G N ss (.brk, ρ) = some (.brk, ρ) := rfl
theorem t_cnt : thenS G N ss (.cnt, ρ) = some (.cnt, ρ) := rfl
theorem t_ret {fr : Bool} : thenS G N ss (.ret fr d, ρ) = some (.ret fr d, ρ) := rfl
def asgE (own fr : Bool) (i : Nat) (ρ : En) : D → Option (Fl × En)
  | .list ds => if own then (if fr then some (.nx, ρ.set i (.own ds)) else none) else some (.nx, ρ.set i (.val (.list ds)))
  | d => if own then none else some (.nx, ρ.set i (.val d))
theorem x_asgF : ex G N (.asg false i x) ρ = (ev G false x ρ).bind fun d => some (.nx, ρ.set i (.val d)) := rfl
theorem x_asgT : ex G N (.asg true i x) ρ = (ev G false x ρ).bind fun d => (seqL d).bind fun ds => if frE G.Fr x then some (.nx, ρ.set i (.own ds)) else none := by
  simp only [ex]
  congr 1; funext d
  cases d <;> rfl
theorem x_asgp : ex G N (.asgp p x) ρ = (ev G false x ρ).bind fun d => (bindPat p d ρ).map fun ρ' => (.nx, ρ') := rfl
theorem x_par : ex G N (.par is es) ρ = (evs G false es ρ).bind fun ds => (sets ρ is ds).map fun ρ' => (.nx, ρ') := rfl
theorem sets_nil : sets ρ [] [] = some ρ := rfl
theorem sets_cons {l : List Nat} : sets ρ (i :: l) (d :: ds) = sets (ρ.set i (.val d)) l ds := rfl
theorem x_app : ex G N (.app i x) ρ = (ev G false x ρ).bind fun d => (getO ρ i).bind fun ds => if ds.length < line then some (.nx, ρ.set i (.own (ds ++ [d]))) else none := rfl
theorem x_ext : ex G N (.ext i x) ρ = (ev G true x ρ).bind fun d => (getO ρ i).bind fun ds => (seqL d).bind fun es => if ds.length + es.length ≤ line then some (.nx, ρ.set i (.own (ds ++ es))) else none := by
  simp only [ex]
  congr 1; funext d; congr 1; funext l
  cases d <;> rfl
theorem x_exp : ex G N (.exp x) ρ = (ev G false x ρ).map fun _ => (.nx, ρ) := rfl
theorem x_own2 : ex G N (.own2 i j) ρ = some (.nx, ρ.set i (.own2 (List.replicate j []))) := rfl
theorem x_newT : ex G N (.newd true i) ρ = some (.nx, ρ.set i (.dcT [])) := rfl
theorem x_ret : ex G N (.ret x) ρ = (ev G false x ρ).map fun d => (.ret (frE G.Fr x) d, ρ) := rfl
theorem x_ite : ex G N (.ite x a c) ρ = (ev G false x ρ).bind fun d => (asBool d).bind fun t => if t then exs G N a ρ else exs G N c ρ := rfl
theorem x_for : ex G N (.for p it a kill) ρ = (evIt G false it ρ).bind fun xs => forGo (fun x ρ => (bindPat p x ρ).bind fun ρ1 => exs G N a ρ1) kill xs ρ := rfl
theorem x_whl : ex G N (.whl x a kill) ρ = whlGo (fun ρ => (ev G false x ρ).bind asBool) (fun ρ => exs G N a ρ) kill N ρ := rfl
theorem x_nev : ex G N .nev ρ = none := rfl
def frzE : Ent → Option Ent
  | .own ds => some (.val (.list ds))
  | .own2 dss => some (.val (.list (dss.map .list)))
  | .val d => some (.val d)
  | _ => none
theorem x_frz : ex G N (.frz i) ρ = (frzE (ρ.getD i .no)).map fun e => (.nx, ρ.set i e) := by
  simp only [ex]
  cases ρ.getD i .no <;> rfl
theorem fz_o : frzE (.own ds) = some (.val (.list ds)) := rfl
theorem fz_o2 {dss : List (List D)} : frzE (.own2 dss) = some (.val (.list (dss.map .list))) := rfl
theorem fz_v : frzE (.val d) = some (.val d) := rfl
/-! the ends of a def -/
def endD (fr : Bool) : Fl × En → Option D
  | (.ret f v, _) => if fr && !f then none else some v
  | (.nx, _) => if fr then none else some .none
  | _ => none
theorem run_def {np nn : Nat} {fr : Bool} {body : Sms} (h : ds.length = np) : runDef G N ⟨np, nn, fr, body⟩ ds = (exs G N body (ds.map .val ++ List.replicate (nn - np) .no)).bind (endD fr) := by
  unfold runDef
  rw [if_pos h]
  congr 1; funext r
  obtain ⟨f, ρ'⟩ := r
  cases f <;> rfl
theorem e_rF {f : Bool} : endD false (.ret f d, ρ) = some d := rfl
theorem e_rT : endD true (.ret true d, ρ) = some d := rfl
theorem e_nF : endD false (.nx, ρ) = some .none := rfl
/-! values -/
theorem sq_l : seqOf (.list xs) = some xs := rfl
theorem sq_t : seqOf (.tuple xs) = some xs := rfl
theorem sx_l : seqIx (.list xs) = some xs := rfl
theorem sx_t : seqIx (.tuple xs) = some xs := rfl
theorem sl_l : seqL (.list xs) = some xs := rfl
theorem sq_L {l : List Nat} : seqOf (eL l) = some (l.map eN) := rfl
theorem sx_L {l : List Nat} : seqIx (eL l) = some (l.map eN) := rfl
theorem sl_L {l : List Nat} : seqL (eL l) = some (l.map eN) := rfl
theorem sq_Ps {l : List (Nat × Nat)} : seqOf (ePs l) = some (l.map eP) := rfl
theorem sx_Ps {l : List (Nat × Nat)} : seqIx (ePs l) = some (l.map eP) := rfl
theorem sl_Ps {l : List (Nat × Nat)} : seqL (ePs l) = some (l.map eP) := rfl
theorem sq_G {l : List (List Nat)} : seqOf (eG l) = some (l.map eL) := rfl
theorem sx_G {l : List (List Nat)} : seqIx (eG l) = some (l.map eL) := rfl
theorem sl_G {l : List (List Nat)} : seqL (eG l) = some (l.map eL) := rfl
theorem sx_P {q : Nat × Nat} : seqIx (eP q) = some [.int (q.1 : Int), .int (q.2 : Int)] := rfl
theorem ai {n : Int} : asInt (.int n) = some n := rfl
theorem ab {n : Bool} : asBool (.bool n) = some n := rfl
theorem at0 : atI (d :: ds) 0 = some d := by
  unfold atI ixN
  rw [if_pos (by decide), if_pos (by simp only [List.length_cons]; omega)]
  rfl
theorem at1 {d2 : D} : atI (d :: d2 :: ds) 1 = some d2 := by
  unfold atI ixN
  rw [if_pos (by decide), if_pos (by simp only [List.length_cons]; omega)]
  rfl
theorem p_add {m n : Int} : op2 .add (.int m) (.int n) = some (.int (m + n)) := rfl
theorem p_sub {m n : Int} : op2 .sub (.int m) (.int n) = some (.int (m - n)) := rfl
theorem p_lt {m n : Int} : op2 .lt (.int m) (.int n) = some (.bool (decide (m < n))) := rfl
theorem p_le {m n : Int} : op2 .le (.int m) (.int n) = some (.bool (decide (m ≤ n))) := rfl
theorem p_gt {m n : Int} : op2 .gt (.int m) (.int n) = some (.bool (decide (n < m))) := rfl
theorem p_ge {m n : Int} : op2 .ge (.int m) (.int n) = some (.bool (decide (n ≤ m))) := rfl
theorem p_isB {m n : Bool} : op2 .is (.bool m) (.bool n) = some (.bool (decide (m = n))) := rfl
theorem p_isnB {m n : Bool} : op2 .isNot (.bool m) (.bool n) = some (.bool (!decide (m = n))) := rfl
theorem p_isN : op2 .is d .none = some (.bool (isNoneD d)) := by cases d <;> rfl
theorem p_isnN : op2 .isNot d .none = some (.bool (!isNoneD d)) := by cases d <;> rfl
theorem p_cat : op2 .add (.list xs) (.list ys) = if xs.length + ys.length ≤ line then some (.list (xs ++ ys)) else none := rfl
theorem y_len : Pv.bi .len [.list xs] = some (.int xs.length) := rfl
theorem y_lenT : Pv.bi .len [.tuple xs] = some (.int xs.length) := rfl
theorem y_lenL {l : List Nat} : Pv.bi .len [eL l] = some (.int l.length) := by
  show some (PyData.int (l.map eN).length) = _
  rw [List.length_map]
theorem y_lenPs {l : List (Nat × Nat)} : Pv.bi .len [ePs l] = some (.int l.length) := by
  show some (PyData.int (l.map eP).length) = _
  rw [List.length_map]
theorem y_lenG {l : List (List Nat)} : Pv.bi .len [eG l] = some (.int l.length) := by
  show some (PyData.int (l.map eL).length) = _
  rw [List.length_map]
theorem y_int {n : Int} : Pv.bi .int [.int n] = some (.int n) := rfl
theorem y_intB {n : Bool} : Pv.bi .int [.bool n] = some (.int (if n then 1 else 0)) := rfl
theorem y_abs {n : Int} : Pv.bi .abs [.int n] = some (.int (if n < 0 then -n else n)) := rfl
theorem y_min2 {m n : Int} : Pv.bi .min2 [.int m, .int n] = some (.int (if n < m then n else m)) := rfl
theorem y_max2 {m n : Int} : Pv.bi .max2 [.int m, .int n] = some (.int (if n > m then n else m)) := rfl
theorem y_gcd {m n : Int} : Pv.bi .gcd [.int m, .int n] = some (.int ((Nat.gcd m.natAbs n.natAbs : Nat) : Int)) := rfl
theorem y_list : Pv.bi .list [.list xs] = some (.list xs) := rfl
theorem y_listL {l : List Nat} : Pv.bi .list [eL l] = some (eL l) := rfl
theorem y_listPs {l : List (Nat × Nat)} : Pv.bi .list [ePs l] = some (ePs l) := rfl
theorem y_all {l : List Bool} : Pv.bi .all [.list (l.map .bool)] = some (.bool (l.all id)) := by
  show (toBools (l.map .bool)).map _ = _
  rw [bools_B]; rfl
end
end Pv

set_option Elab.async false
set_option linter.all false
set_option maxRecDepth 100000
set_option maxHeartbeats 1000000
/-! Loops by fuel; sets and sorts of natural numbers. -/
namespace Pv
open PySem

def itW {S : Type} (cd : S → Bool) (st : S → S) : Nat → S → Option S
  | 0, _ => none
  | n + 1, s => if cd s then itW cd st n (st s) else some s
theorem whlGo_m {S : Type} (c : En → Option Bool) (f : En → Option (Fl × En)) (kill : List Nat) (en : S → En) (cd : S → Bool) (st : S → S) (Iv : S → Prop) (hc : ∀ s, Iv s → c (en s) = some (cd s)) (hs : ∀ s, Iv s → cd s = true → turnE kill (f (en s)) = some (en (st s)) ∧ Iv (st s)) :
    ∀ (n : Nat) (s s' : S), Iv s → itW cd st n s = some s' → whlGo c f kill n (en s) = some (.nx, en s') ∧ Iv s' ∧ cd s' = false
  | 0, s, s', _, h => by cases h
  | n + 1, s, s', i, h => by
    unfold itW at h
    unfold whlGo
    rw [hc s i, Option.bind_some]
    by_cases hcd : cd s = true
    · rw [if_pos hcd] at h
      obtain ⟨h1, h2⟩ := hs s i hcd
      obtain ⟨fl, ρ', e1, e2, e3⟩ := turnE_some h1
      have ih := whlGo_m c f kill en cd st Iv hc hs n (st s) s' h2 h
      rw [if_pos hcd, e1, Option.bind_some]
      rcases e2 with rfl | rfl
      · simp only [e3]; exact ih
      · simp only [e3]; exact ih
    · rw [if_neg hcd] at h
      cases h
      rw [if_neg hcd]
      exact ⟨rfl, i, by simpa using hcd⟩
def dedupN : List Nat → List Nat
  | [] => []
  | x :: r => if x ∈ r then dedupN r else x :: dedupN r
def insN (x : Nat) : List Nat → List Nat
  | [] => [x]
  | y :: r => if x ≤ y then x :: y :: r else y :: insN x r
def sortN : List Nat → List Nat
  | [] => []
  | x :: r => insN x (sortN r)
theorem mem_ofNat (x : Nat) (l : List Nat) : Int.ofNat x ∈ l.map Int.ofNat ↔ x ∈ l := by
  rw [List.mem_map]
  constructor
  · rintro ⟨y, hy, e⟩
    cases e
    exact hy
  · intro h; exact ⟨x, h, rfl⟩
theorem dedup_N : ∀ l : List Nat, dedupI (l.map Int.ofNat) = (dedupN l).map Int.ofNat
  | [] => rfl
  | x :: r => by
    rw [List.map_cons]
    unfold dedupI dedupN
    by_cases h : x ∈ r
    · rw [if_pos ((mem_ofNat x r).mpr h), if_pos h, dedup_N r]
    · rw [if_neg (fun z => h ((mem_ofNat x r).mp z)), if_neg h, dedup_N r]; rfl
theorem ins_N (x : Nat) : ∀ l : List Nat, insI (Int.ofNat x) (l.map Int.ofNat) = (insN x l).map Int.ofNat
  | [] => rfl
  | y :: r => by
    rw [List.map_cons]
    unfold insI insN
    have hh : (Int.ofNat x ≤ Int.ofNat y) ↔ x ≤ y := Int.ofNat_le
    by_cases h : x ≤ y
    · rw [if_pos (hh.mpr h), if_pos h]; rfl
    · rw [if_neg (fun z => h (hh.mp z)), if_neg h, ins_N x r]; rfl
theorem sort_N : ∀ l : List Nat, sortI (l.map Int.ofNat) = (sortN l).map Int.ofNat
  | [] => rfl
  | x :: r => by
    rw [List.map_cons]
    unfold sortI sortN
    rw [sort_N r, ins_N]
theorem map_int (l : List Nat) : (l.map Int.ofNat).map PyData.int = l.map eN := by rw [List.map_map]; rfl
theorem setI_N (l : List Nat) (h : (dedupN l).length < 64) : setI (l.map eN) = some (eL (sortN (dedupN l))) := by
  unfold setI
  rw [ints_N, Option.bind_some, dedup_N, List.length_map, if_pos h, sort_N, map_int]
  rfl
theorem sorted_N (l : List Nat) : bi .sorted [.list (l.map eN)] = some (eL (sortN l)) := by
  show (toInts (l.map eN)).map _ = _
  rw [ints_N]
  show some (PyData.list ((sortI (l.map Int.ofNat)).map .int)) = _
  rw [sort_N, map_int]
  rfl
theorem sorted_L (l : List Nat) : bi .sorted [eL l] = some (eL (sortN l)) := sorted_N l
theorem dedupN_mem {j : Nat} : ∀ {l : List Nat}, j ∈ dedupN l ↔ j ∈ l
  | [] => Iff.rfl
  | x :: r => by
    unfold dedupN
    split
    · rename_i h
      rw [dedupN_mem, List.mem_cons]
      exact ⟨.inr, fun z => z.elim (fun e => e ▸ h) id⟩
    · rw [List.mem_cons, List.mem_cons, dedupN_mem]
theorem dedupN_nodup : ∀ l : List Nat, (dedupN l).Nodup
  | [] => .nil
  | x :: r => by
    unfold dedupN
    split
    · exact dedupN_nodup r
    · rename_i h
      exact List.nodup_cons.mpr ⟨fun z => h (dedupN_mem.mp z), dedupN_nodup r⟩
theorem dedupN_le : ∀ l : List Nat, (dedupN l).length ≤ l.length
  | [] => Nat.le_refl _
  | x :: r => by
    unfold dedupN
    split
    · exact Nat.le_trans (dedupN_le r) (Nat.le_succ _)
    · rw [List.length_cons, List.length_cons]; exact Nat.succ_le_succ (dedupN_le r)
theorem insN_perm (x : Nat) : ∀ l : List Nat, (insN x l).Perm (x :: l)
  | [] => List.Perm.refl _
  | y :: r => by
    unfold insN
    split
    · exact List.Perm.refl _
    · exact ((insN_perm x r).cons y).trans (List.Perm.swap x y r)
theorem sortN_perm : ∀ l : List Nat, (sortN l).Perm l
  | [] => List.Perm.refl _
  | x :: r => by
    unfold sortN
    exact (insN_perm x _).trans ((sortN_perm r).cons x)
theorem insN_sorted (x : Nat) : ∀ l : List Nat, l.Pairwise (· ≤ ·) → (insN x l).Pairwise (· ≤ ·)
  | [], _ => List.pairwise_singleton _ _
  | y :: r, h => by
    unfold insN
    obtain ⟨h1, h2⟩ := List.pairwise_cons.mp h
    split
    · rename_i hxy
      refine List.pairwise_cons.mpr ⟨fun z hz => ?_, h⟩
      rcases List.mem_cons.mp hz with rfl | hz
      · exact hxy
      · exact Nat.le_trans hxy (h1 z hz)
    · rename_i hxy
      refine List.pairwise_cons.mpr ⟨fun z hz => ?_, insN_sorted x r h2⟩
      rcases List.mem_cons.mp ((insN_perm x r).mem_iff.mp hz) with rfl | hz
      · omega
      · exact h1 z hz
theorem sortN_sorted : ∀ l : List Nat, (sortN l).Pairwise (· ≤ ·)
  | [] => .nil
  | x :: r => by unfold sortN; exact insN_sorted x _ (sortN_sorted r)
theorem sortN_mem {j : Nat} {l : List Nat} : j ∈ sortN l ↔ j ∈ l := (sortN_perm l).mem_iff
/-- a sorted list is as its members say, where none is twice -/
theorem asc_eq : ∀ {l m : List Nat}, l.Pairwise (· < ·) → m.Pairwise (· < ·) → (∀ j, j ∈ l ↔ j ∈ m) → l = m
  | [], [], _, _, _ => rfl
  | [], y :: m, _, _, h => absurd ((h y).mpr (List.mem_cons_self ..)) (by simp)
  | x :: l, [], _, _, h => absurd ((h x).mp (List.mem_cons_self ..)) (by simp)
  | x :: l, y :: m, hl, hm, h => by
    obtain ⟨a1, a2⟩ := List.pairwise_cons.mp hl
    obtain ⟨b1, b2⟩ := List.pairwise_cons.mp hm
    have exy : x = y := by
      rcases List.mem_cons.mp ((h x).mp (List.mem_cons_self ..)) with e | e
      · exact e
      · rcases List.mem_cons.mp ((h y).mpr (List.mem_cons_self ..)) with e2 | e2
        · exact e2.symm
        · have := b1 x e; have := a1 y e2; omega
    subst exy
    congr 1
    refine asc_eq a2 b2 fun j => ⟨fun hj => ?_, fun hj => ?_⟩
    · rcases List.mem_cons.mp ((h j).mp (List.mem_cons_of_mem _ hj)) with e | e
      · subst e; have := a1 j hj; omega
      · exact e
    · rcases List.mem_cons.mp ((h j).mpr (List.mem_cons_of_mem _ hj)) with e | e
      · subst e; have := b1 j hj; omega
      · exact e
theorem sortN_asc {l : List Nat} (h : l.Nodup) : (sortN l).Pairwise (· < ·) := by
  have nd : (sortN l).Nodup := (sortN_perm l).nodup_iff.mpr h
  exact (sortN_sorted l).imp₂ (fun {a b} h1 h2 => Nat.lt_of_le_of_ne h1 h2) nd
theorem sq_P {q : Nat × Nat} : seqOf (eP q) = some ([q.1, q.2].map eN) := rfl
theorem flat_L (l : List Nat) : flatRes true (eL l) = true := by
  show (true && flatDs (l.map eN)) = true
  rw [Bool.true_and]
  induction l with
  | nil => rfl
  | cons a l ih => rw [List.map_cons]; show (flatD (eN a) && flatDs (l.map eN)) = true; rw [ih]; rfl
end Pv

set_option Elab.async false
set_option linter.all false
set_option maxRecDepth 100000
set_option maxHeartbeats 1000000
/-! Searches, loops whose step may fail, sorted rows of natural numbers. -/
namespace Pv
open PySem

def fb {α : Type} (w : α → Option Bool) : List α → Option (Option α)
  | [] => some none
  | x :: xs => match w x with
    | none => none
    | some true => some (some x)
    | some false => fb w xs
theorem forGo_fb {α : Type} (f : D → En → Option (Fl × En)) (kill : List Nat) (e : α → D) (ρ : En) (w : α → Option Bool) (r : α → Fl × En) (hr : ∀ x, ∃ fr d, (r x).1 = .ret fr d) : ∀ (xs : List α) (o : Option α), (∀ x ∈ xs, w x = some true → f (e x) ρ = some (r x)) → (∀ x ∈ xs, w x = some false → turnE kill (f (e x) ρ) = some ρ) → fb w xs = some o →
    forGo f kill (xs.map e) ρ = some (match o with | some x => r x | none => (.nx, ρ))
  | [], o, _, _, h => by cases h; rfl
  | x :: xs, o, h1, h2, h => by
    unfold fb at h
    rw [List.map_cons]
    simp only [forGo]
    cases hw : w x with
    | none => rw [hw] at h; cases h
    | some b =>
      rw [hw] at h
      cases b with
      | true =>
        cases h
        rw [h1 x (List.mem_cons_self ..) hw]
        obtain ⟨fr, d, hd⟩ := hr x
        generalize hz : r x = z at hd ⊢
        obtain ⟨fl, ρ'⟩ := z
        simp only at hd
        subst hd
        show some _ = some (r x)
        rw [hz]
      | false =>
        obtain ⟨fl, ρ', e1, e2, e3⟩ := turnE_some (h2 x (List.mem_cons_self ..) hw)
        have ih := forGo_fb f kill e ρ w r hr xs o (fun y hy => h1 y (List.mem_cons_of_mem _ hy)) (fun y hy => h2 y (List.mem_cons_of_mem _ hy)) h
        rw [e1, Option.bind_some]
        rcases e2 with rfl | rfl
        · simp only [e3]; exact ih
        · simp only [e3]; exact ih
def itO {S : Type} (cd : S → Bool) (st : S → Option S) : Nat → S → Option S
  | 0, _ => none
  | n + 1, s => if cd s then (st s).bind (itO cd st n) else some s
theorem whlGo_o {S : Type} (c : En → Option Bool) (f : En → Option (Fl × En)) (kill : List Nat) (en : S → En) (cd : S → Bool) (st : S → Option S) (Iv : S → Prop) (hc : ∀ s, Iv s → c (en s) = some (cd s)) (hs : ∀ s s2, Iv s → cd s = true → st s = some s2 → turnE kill (f (en s)) = some (en s2) ∧ Iv s2) :
    ∀ (n : Nat) (s s' : S), Iv s → itO cd st n s = some s' → whlGo c f kill n (en s) = some (.nx, en s') ∧ Iv s' ∧ cd s' = false
  | 0, s, s', _, h => by cases h
  | n + 1, s, s', i, h => by
    unfold itO at h
    unfold whlGo
    rw [hc s i, Option.bind_some]
    by_cases hcd : cd s = true
    · rw [if_pos hcd] at h
      obtain ⟨s2, e0, h⟩ := Option.bind_eq_some_iff.mp h
      obtain ⟨h1, h2⟩ := hs s s2 i hcd e0
      obtain ⟨fl, ρ', e1, e2, e3⟩ := turnE_some h1
      have ih := whlGo_o c f kill en cd st Iv hc hs n s2 s' h2 h
      rw [if_pos hcd, e1, Option.bind_some]
      rcases e2 with rfl | rfl
      · simp only [e3]; exact ih
      · simp only [e3]; exact ih
    · rw [if_neg hcd] at h
      cases h
      rw [if_neg hcd]
      exact ⟨rfl, i, by simpa using hcd⟩
def lexN : List Nat → List Nat → Bool
  | [], _ => true
  | _ :: _, [] => false
  | x :: xs, y :: ys => if x = y then lexN xs ys else decide (x < y)
def insLN (x : List Nat) : List (List Nat) → List (List Nat)
  | [] => [x]
  | y :: r => if lexN x y then x :: y :: r else y :: insLN x r
def sortLN : List (List Nat) → List (List Nat)
  | [] => []
  | x :: r => insLN x (sortLN r)
theorem lex_N : ∀ x y : List Nat, lexLe (x.map Int.ofNat) (y.map Int.ofNat) = lexN x y
  | [], y => by simp [lexLe, lexN]
  | x :: xs, [] => by simp [lexLe, lexN]
  | x :: xs, y :: ys => by
    rw [List.map_cons, List.map_cons]
    unfold lexLe lexN
    have h1 : (Int.ofNat x = Int.ofNat y) ↔ x = y := ⟨fun h => by cases h; rfl, fun h => by rw [h]⟩
    have h2 : (Int.ofNat x < Int.ofNat y) ↔ x < y := Int.ofNat_lt
    by_cases h : x = y
    · rw [if_pos (h1.mpr h), if_pos h, lex_N xs ys]
    · rw [if_neg (fun z => h (h1.mp z)), if_neg h]
      exact decide_eq_decide.mpr h2
theorem ins_LN (x : List Nat) : ∀ l : List (List Nat), insL (x.map Int.ofNat) (l.map fun m => m.map Int.ofNat) = (insLN x l).map fun m => m.map Int.ofNat
  | [] => rfl
  | y :: r => by
    rw [List.map_cons]
    unfold insL insLN
    rw [lex_N]
    split
    · rfl
    · rw [ins_LN x r]; rfl
theorem sort_LN : ∀ l : List (List Nat), sortL (l.map fun m => m.map Int.ofNat) = (sortLN l).map fun m => m.map Int.ofNat
  | [] => rfl
  | x :: r => by
    rw [List.map_cons]
    unfold sortL sortLN
    rw [sort_LN r, ins_LN]
theorem toLL_N : ∀ l : List (List Nat), toLL (l.map eL) = some (l.map fun m => m.map Int.ofNat)
  | [] => rfl
  | x :: r => by
    rw [List.map_cons, List.map_cons]
    show ((toInts (x.map eN)).bind fun l => (toLL (r.map eL)).map (l :: ·)) = _
    rw [ints_N, toLL_N r]; rfl
theorem sortedL_G (l : List (List Nat)) : bi .sortedL [eG l] = some (eG (sortLN l)) := by
  show (match toLL (l.map eL) with
    | some ls => some (PyData.list ((sortL ls).map fun (l : List Int) => PyData.list (l.map .int)))
    | none => (toTT (l.map eL)).map fun ls => PyData.list ((sortL ls).map fun (l : List Int) => PyData.tuple (l.map .int))) = _
  rw [toLL_N]
  show some (PyData.list ((sortL (l.map fun m => m.map Int.ofNat)).map fun (l : List Int) => PyData.list (l.map .int))) = _
  rw [sort_LN, List.map_map]
  congr 2
  refine List.map_congr_left fun m _ => ?_
  show PyData.list ((m.map Int.ofNat).map .int) = _
  rw [map_int]; rfl
end Pv

set_option Elab.async false
set_option linter.all false
set_option maxRecDepth 100000
set_option maxHeartbeats 4000000
/-! written by gen.py -/
namespace K19
open PySem PySem.Spec PyProof.Rows L2 Pv
def topS (i : Nat) : Stmt := PySem.Challenge.pw_gridkept_k19_main_plain_grids_and_four_s.main.body.getD i (.Pass ⟨0, 0, 0, 0⟩)
def b_is_fraction : Sms := (.cons (.ret (.bool true (.cons (.op .gt (.idx (.var 0) (.con (.int 1))) (.con (.int 0))) (.cons (.op .eq (.bi .gcd (.cons (.idx (.var 0) (.con (.int 0))) (.cons (.idx (.var 0) (.con (.int 1))) .nil))) (.con (.int 1))) .nil)))) .nil)
def n_is_fraction : List Str := ["told"]
def f_is_fraction : FD := ⟨"is_fraction", ⟨1, 1, false, b_is_fraction⟩, n_is_fraction, topS 7⟩
def b_is_line : Sms := (.cons (.asgp (.tp (.cons (.nm 2) (.cons (.nm 3) (.cons (.nm 4) (.cons (.nm 5) .nil))))) (.var 1)) (.cons (.ite (.bool false (.cons (.not (.ch3 .le .lt .lt (.con (.int 0)) (.var 2) (.var 3) (.var 0))) (.cons (.not (.call "is_fraction" (.cons (.var 4) .nil))) (.cons (.not (.call "is_fraction" (.cons (.var 5) .nil))) .nil)))) (.cons (.ret (.con (.bool false))) .nil) .nil) (.cons (.ret (.bool true (.cons (.op .gt (.idx (.var 4) (.con (.int 0))) (.con (.int 0))) (.cons (.op .ge (.idx (.var 5) (.con (.int 0))) (.con (.int 0))) .nil)))) .nil)))
def n_is_line : List Str := ["nodes", "line", "a", "b", "stiffness", "most"]
def f_is_line : FD := ⟨"is_line", ⟨2, 6, false, b_is_line⟩, n_is_line, topS 11⟩
def b_check_grid : Sms := (.cons (.asgp (.tp (.cons (.nm 1) (.cons (.nm 2) .nil))) (.var 0)) (.cons (.ite (.not (.ch .le .le (.con (.int 1)) (.var 1) (.glb "MOST_NODES" 8))) (.cons .nev .nil) .nil) (.cons (.ite (.op .gt (.bi .len (.cons (.var 2) .nil)) (.glb "MOST_LINES" 14)) (.cons .nev .nil) .nil) (.cons (.for (.tp (.cons (.nm 3) (.cons (.nm 4) .nil))) (.enum (.var 2)) (.cons (.ite (.not (.call "is_line" (.cons (.var 1) (.cons (.var 4) .nil)))) (.cons .nev .nil) .nil) .nil) [3, 4]) .nil))))
def n_check_grid : List Str := ["grid", "nodes", "lines", "k", "line"]
def f_check_grid : FD := ⟨"check_grid", ⟨1, 5, false, b_check_grid⟩, n_check_grid, topS 12⟩
def b_joined_with : Sms := (.cons (.asg true 2 (.lst (.cons (.var 1) .nil))) (.cons (.asg false 3 (.con (.int 0))) (.cons (.whl (.op .lt (.var 3) (.bi .len (.cons (.var 2) .nil))) (.cons (.asg false 4 (.op .add (.lc (.var 6) (.tp (.cons (.nm 5) (.cons (.nm 6) .nil))) (.seq (.var 0)) (.cons (.op .eq (.var 5) (.idx (.var 2) (.var 3))) .nil) [5, 6]) (.lc (.var 5) (.tp (.cons (.nm 5) (.cons (.nm 6) .nil))) (.seq (.var 0)) (.cons (.op .eq (.var 6) (.idx (.var 2) (.var 3))) .nil) [5, 6]))) (.cons (.ext 2 (.ssc (.var 7) (.nm 7) (.seq (.var 4)) (.cons (.op .notIn (.var 7) (.var 2)) .nil) [7])) (.cons (.asg false 3 (.op .add (.var 3) (.con (.int 1)))) .nil))) [4]) (.cons (.ret (.bi .sorted (.cons (.var 2) .nil))) .nil))))
def n_joined_with : List Str := ["pairs", "start", "found", "at", "ends", "a", "b", "node"]
def f_joined_with : FD := ⟨"joined_with", ⟨2, 8, true, b_joined_with⟩, n_joined_with, topS 13⟩
def b_pairs_of : Sms := (.cons (.newd true 2) (.cons (.for (.tp (.cons (.nm 3) (.cons (.nm 4) .nil))) (.seq (.var 1)) (.cons (.asg false 5 (.lc (.var 6) (.tp (.cons (.nm 6) (.cons (.nm 7) .nil))) (.enum (.var 0)) (.cons (.op .isIn (.var 3) (.var 7)) .nil) [6, 7])) (.cons (.asg false 8 (.lc (.var 6) (.tp (.cons (.nm 6) (.cons (.nm 7) .nil))) (.enum (.var 0)) (.cons (.op .isIn (.var 4) (.var 7)) .nil) [6, 7])) (.cons (.ite (.bool true (.cons (.op .gt (.bi .len (.cons (.var 5) .nil)) (.con (.int 0))) (.cons (.op .gt (.bi .len (.cons (.var 8) .nil)) (.con (.int 0))) (.cons (.op .ne (.var 5) (.var 8)) .nil)))) (.cons (.put 2 (.tup (.cons (.bi .min2 (.cons (.idx (.var 5) (.con (.int 0))) (.cons (.idx (.var 8) (.con (.int 0))) .nil))) (.cons (.bi .max2 (.cons (.idx (.var 5) (.con (.int 0))) (.cons (.idx (.var 8) (.con (.int 0))) .nil))) .nil))) (.con (.bool true))) .nil) .nil) .nil))) [3, 4, 5, 8]) (.cons (.ret (.skeys 2)) .nil)))
def n_pairs_of : List Str := ["groups", "lines", "found", "a", "b", "one", "k", "group", "two"]
def f_pairs_of : FD := ⟨"pairs_of", ⟨2, 9, true, b_pairs_of⟩, n_pairs_of, topS 15⟩
def b_ends_of : Sms := (.cons (.ret (.op .add (.lc (.var 3) (.tp (.cons (.nm 2) (.cons (.nm 3) .nil))) (.seq (.var 0)) (.cons (.op .eq (.var 2) (.var 1)) .nil) [2, 3]) (.lc (.var 2) (.tp (.cons (.nm 2) (.cons (.nm 3) .nil))) (.seq (.var 0)) (.cons (.op .eq (.var 3) (.var 1)) .nil) [2, 3]))) .nil)
def n_ends_of : List Str := ["pairs", "node", "a", "b"]
def f_ends_of : FD := ⟨"ends_of", ⟨2, 4, true, b_ends_of⟩, n_ends_of, topS 16⟩
def b_worn : Sms := (.cons (.asg true 1 (.bi .list (.cons (.var 0) .nil))) (.cons (.asg false 2 (.con (.bool true))) (.cons (.whl (.var 2) (.cons (.asg false 2 (.con (.bool false))) (.cons (.for (.nm 3) (.seq (.ssc2 (.var 3) (.nm 4) (.seq (.var 1)) .nil (.nm 3) (.seq (.var 4)) .nil [4, 3] [3])) (.cons (.asg false 5 (.callB "ends_of" (.cons (.var 1) (.cons (.var 3) .nil)))) (.cons (.ite (.ch .le .le (.con (.int 1)) (.bi .len (.cons (.var 5) .nil)) (.con (.int 2))) (.cons (.asg true 1 (.lc (.var 4) (.nm 4) (.seq (.var 1)) (.cons (.op .notIn (.var 3) (.var 4)) .nil) [4])) (.cons (.ite (.bool true (.cons (.op .eq (.bi .len (.cons (.var 5) .nil)) (.con (.int 2))) (.cons (.op .notIn (.tup (.cons (.bi .min1 (.cons (.var 5) .nil)) (.cons (.bi .max1 (.cons (.var 5) .nil)) .nil))) (.var 1)) .nil))) (.cons (.app 1 (.tup (.cons (.bi .min1 (.cons (.var 5) .nil)) (.cons (.bi .max1 (.cons (.var 5) .nil)) .nil)))) .nil) .nil) (.cons (.asg false 2 (.con (.bool true))) .nil))) .nil) .nil)) [3, 5]) .nil)) [3, 5]) (.cons (.ret (.op .eq (.bi .len (.cons (.var 1) .nil)) (.con (.int 0)))) .nil))))
def n_worn : List Str := ["pairs", "left", "going", "node", "pair", "ends"]
def f_worn : FD := ⟨"worn", ⟨1, 6, false, b_worn⟩, n_worn, topS 17⟩
def b_lines_of : Sms := (.cons (.ret (.lc (.tup (.cons (.var 1) (.cons (.var 2) .nil))) (.tp (.cons (.nm 1) (.cons (.nm 2) (.cons (.nm 3) (.cons (.nm 3) .nil))))) (.seq (.idx (.var 0) (.con (.int 1)))) .nil [1, 2, 3])) .nil)
def n_lines_of : List Str := ["grid", "a", "b", "_"]
def f_lines_of : FD := ⟨"lines_of", ⟨1, 4, true, b_lines_of⟩, n_lines_of, topS 18⟩
def b_is_plain : Sms := (.cons (.exp (.call "check_grid" (.cons (.var 0) .nil))) (.cons (.ret (.call "worn" (.cons (.call "pairs_of" (.cons (.lc (.lst (.cons (.var 1) .nil)) (.nm 1) (.rng (.cons (.idx (.var 0) (.con (.int 0))) .nil)) .nil [1]) (.cons (.call "lines_of" (.cons (.var 0) .nil)) .nil))) .nil))) .nil))
def n_is_plain : List Str := ["grid", "node"]
def f_is_plain : FD := ⟨"is_plain", ⟨1, 2, false, b_is_plain⟩, n_is_plain, topS 19⟩
def b_fewer : Sms := (.cons (.for (.tp (.cons (.nm 2) (.cons (.nm 3) .nil))) (.seq (.call "pairs_of" (.cons (.var 0) (.cons (.var 1) .nil)))) (.cons (.asg false 4 (.bi .sorted (.cons (.op .add (.idx (.var 0) (.var 2)) (.idx (.var 0) (.var 3))) .nil))) (.cons (.asg false 5 (.op .add (.lc (.var 7) (.tp (.cons (.nm 6) (.cons (.nm 7) .nil))) (.enum (.var 0)) (.cons (.op .notIn (.var 6) (.tup (.cons (.var 2) (.cons (.var 3) .nil)))) .nil) [6, 7]) (.lst (.cons (.var 4) .nil)))) (.cons (.ite (.not (.call "worn" (.cons (.call "pairs_of" (.cons (.var 5) (.cons (.var 1) .nil))) .nil))) (.cons (.ret (.var 5)) .nil) .nil) .nil))) [2, 3, 4, 5]) (.cons (.for (.nm 6) (.rng (.cons (.bi .len (.cons (.var 0) .nil)) .nil)) (.cons (.asg false 5 (.op .add (.cut (.var 0) none (some (.var 6))) (.cut (.var 0) (some (.op .add (.var 6) (.con (.int 1)))) none))) (.cons (.ite (.not (.call "worn" (.cons (.call "pairs_of" (.cons (.var 5) (.cons (.var 1) .nil))) .nil))) (.cons (.ret (.var 5)) .nil) .nil) .nil)) [6, 5]) (.cons (.ret (.var 0)) .nil)))
def n_fewer : List Str := ["groups", "lines", "a", "b", "joined", "told", "k", "group"]
def f_fewer : FD := ⟨"fewer", ⟨2, 8, false, b_fewer⟩, n_fewer, topS 20⟩
def b_four_sets : Sms := (.cons (.exp (.call "check_grid" (.cons (.var 0) .nil))) (.cons (.asg false 1 (.call "lines_of" (.cons (.var 0) .nil))) (.cons (.asg false 2 (.lc (.lst (.cons (.var 3) .nil)) (.nm 3) (.rng (.cons (.idx (.var 0) (.con (.int 0))) .nil)) .nil [3])) (.cons (.ite (.call "worn" (.cons (.call "pairs_of" (.cons (.var 2) (.cons (.var 1) .nil))) .nil)) (.cons (.ret (.con .none)) .nil) .nil) (.cons (.whl (.op .gt (.bi .len (.cons (.var 2) .nil)) (.con (.int 4))) (.cons (.asg false 2 (.call "fewer" (.cons (.var 2) (.cons (.var 1) .nil)))) .nil) []) (.cons (.ret (.bi .sortedL (.cons (.var 2) .nil))) .nil))))))
def n_four_sets : List Str := ["grid", "lines", "groups", "node"]
def f_four_sets : FD := ⟨"four_sets", ⟨1, 4, false, b_four_sets⟩, n_four_sets, topS 21⟩
def b_are_four_sets : Sms := (.cons (.exp (.call "check_grid" (.cons (.var 0) .nil))) (.cons (.ite (.bool false (.cons (.op .ne (.bi .len (.cons (.var 1) .nil)) (.con (.int 4))) (.cons (.not (.bi .all (.cons (.lc (.op .gt (.bi .len (.cons (.var 2) .nil)) (.con (.int 0))) (.nm 2) (.seq (.var 1)) .nil [2]) .nil))) .nil))) (.cons (.ret (.con (.bool false))) .nil) .nil) (.cons (.asg false 3 (.lc2 (.var 4) (.nm 2) (.seq (.var 1)) .nil (.nm 4) (.seq (.var 2)) .nil [2, 4] [4])) (.cons (.ite (.bool false (.cons (.not (.bi .all (.cons (.lc (.ch .le .lt (.con (.int 0)) (.var 4) (.idx (.var 0) (.con (.int 0)))) (.nm 4) (.seq (.var 3)) .nil [4]) .nil))) (.cons (.op .lt (.bi .len (.cons (.ssc (.var 4) (.nm 4) (.seq (.var 3)) .nil [4]) .nil)) (.bi .len (.cons (.var 3) .nil))) .nil))) (.cons (.ret (.con (.bool false))) .nil) .nil) (.cons (.asg false 5 (.call "lines_of" (.cons (.var 0) .nil))) (.cons (.for (.nm 2) (.seq (.var 1)) (.cons (.asg false 6 (.lc (.tup (.cons (.var 7) (.cons (.var 8) .nil))) (.tp (.cons (.nm 7) (.cons (.nm 8) .nil))) (.seq (.var 5)) (.cons (.bool true (.cons (.op .isIn (.var 7) (.var 2)) (.cons (.op .isIn (.var 8) (.var 2)) .nil))) .nil) [7, 8])) (.cons (.ite (.bool false (.cons (.not (.bi .all (.cons (.lc (.op .lt (.var 7) (.var 8)) (.tp (.cons (.nm 7) (.cons (.nm 8) .nil))) (.zip (.var 2) (.cut (.var 2) (some (.con (.int 1))) none)) .nil [7, 8]) .nil))) (.cons (.op .ne (.call "joined_with" (.cons (.var 6) (.cons (.idx (.var 2) (.con (.int 0))) .nil))) (.bi .list (.cons (.var 2) .nil))) .nil))) (.cons (.ret (.con (.bool false))) .nil) .nil) .nil)) [2, 6]) (.cons (.ret (.op .eq (.bi .len (.cons (.call "pairs_of" (.cons (.lc (.bi .list (.cons (.var 2) .nil)) (.nm 2) (.seq (.var 1)) .nil [2]) (.cons (.var 5) .nil))) .nil)) (.con (.int 6)))) .nil)))))))
def n_are_four_sets : List Str := ["grid", "told", "group", "every", "node", "lines", "inside", "a", "b"]
def f_are_four_sets : FD := ⟨"are_four_sets", ⟨2, 9, false, b_are_four_sets⟩, n_are_four_sets, topS 22⟩
def b_law_draws : Sms := (.cons (.asg true 1 (.lst .nil)) (.cons (.for (.nm 2) (.rng (.cons (.bi .min2 (.cons (.con (.int 63)) (.cons (.bi .len (.cons (.var 0) .nil)) .nil))) .nil)) (.cons (.asg false 3 (.bi .abs (.cons (.idx (.var 0) (.var 2)) .nil))) (.cons (.ite (.op .ge (.var 3) (.op .pow (.con (.int 10)) (.con (.int 18)))) (.cons (.for (.nm 4) (.rng (.cons (.con (.int 60)) .nil)) (.cons (.ite (.op .gt (.var 3) (.con (.int 0))) (.cons (.app 1 (.op .mod (.bi .int (.cons (.var 3) .nil)) (.con (.int 65536)))) (.cons (.asg false 3 (.op .fdiv (.var 3) (.con (.int 65536)))) .nil)) .nil) .nil) [4]) .nil) (.cons (.asg false 5 (.op .mod (.bi .int (.cons (.op .add (.op .mul (.var 3) (.con (.int 48271))) (.op .mul (.op .add (.var 2) (.con (.int 1))) (.con (.int 69621)))) .nil)) (.con (.int 2147483647)))) (.cons (.asg false 5 (.op .mod (.bi .int (.cons (.op .add (.op .add (.op .mul (.var 5) (.con (.int 16807))) (.op .mul (.con (.int 11)) (.var 2))) (.con (.int 5))) .nil)) (.con (.int 2147483629)))) (.cons (.app 1 (.op .mod (.bi .int (.cons (.var 5) .nil)) (.con (.int 65536)))) (.cons (.app 1 (.op .mod (.bi .int (.cons (.op .fdiv (.var 5) (.con (.int 65536))) .nil)) (.con (.int 32768)))) .nil))))) .nil)) [2, 3, 4, 5]) (.cons (.frz 1) (.cons (.ret (.var 1)) .nil))))
def n_law_draws : List Str := ["script", "draws", "k", "rest", "turn", "stirred"]
def f_law_draws : FD := ⟨"_law_draws", ⟨1, 6, false, b_law_draws⟩, n_law_draws, topS 24⟩
def b_law_mix : Sms := (.cons (.asg false 3 (.con (.int 0))) (.cons (.ite (.op .gt (.bi .len (.cons (.var 0) .nil)) (.con (.int 0))) (.cons (.asg false 3 (.idx (.var 0) (.op .mod (.bi .int (.cons (.var 1) .nil)) (.bi .len (.cons (.var 0) .nil))))) .nil) .nil) (.cons (.ite (.op .lt (.var 1) (.bi .len (.cons (.var 0) .nil))) (.cons (.ret (.op .mod (.bi .int (.cons (.var 3) .nil)) (.var 2))) .nil) .nil) (.cons (.ret (.op .mod (.bi .int (.cons (.op .fdiv (.bi .int (.cons (.op .add (.op .mul (.var 3) (.con (.int 7919))) (.op .mul (.var 1) (.con (.int 104729)))) .nil)) (.con (.int 3))) .nil)) (.var 2))) .nil))))
def n_law_mix : List Str := ["draws", "k", "many", "cell"]
def f_law_mix : FD := ⟨"_law_mix", ⟨3, 4, false, b_law_mix⟩, n_law_mix, topS 25⟩
def b_law_joined : Sms := (.cons (.asg false 2 (.cut (.var 0) none (some (.con (.int 1))))) (.cons (.for (.nm 3) (.rng (.cons (.bi .len (.cons (.var 0) .nil)) .nil)) (.cons (.for (.tp (.cons (.nm 4) (.cons (.nm 5) .nil))) (.seq (.var 1)) (.cons (.ite (.bool true (.cons (.op .isIn (.var 4) (.var 0)) (.cons (.op .isIn (.var 5) (.var 0)) (.cons (.op .ne (.op .isIn (.var 4) (.var 2)) (.op .isIn (.var 5) (.var 2))) .nil)))) (.cons (.asg false 2 (.op .add (.var 2) (.lc (.var 6) (.nm 6) (.seq (.lst (.cons (.var 4) (.cons (.var 5) .nil)))) (.cons (.op .notIn (.var 6) (.var 2)) .nil) [6]))) .nil) .nil) .nil) [4, 5]) .nil) [3, 4, 5]) (.cons (.ret (.op .eq (.bi .sorted (.cons (.var 2) .nil)) (.bi .sorted (.cons (.var 0) .nil)))) .nil)))
def n_law_joined : List Str := ["some", "pairs", "found", "turn", "a", "b", "v"]
def f_law_joined : FD := ⟨"_law_joined", ⟨2, 7, false, b_law_joined⟩, n_law_joined, topS 26⟩
def b_law_are_four : Sms := (.cons (.asg false 3 (.bi .sumL (.cons (.lc (.bi .list (.cons (.var 4) .nil)) (.nm 4) (.seq (.var 2)) .nil [4]) (.cons (.lst .nil) .nil)))) (.cons (.ite (.bool false (.cons (.op .ne (.bi .len (.cons (.var 2) .nil)) (.con (.int 4))) (.cons (.op .ne (.lc (.var 4) (.nm 4) (.seq (.var 2)) (.cons (.bool false (.cons (.op .eq (.var 4) (.lst .nil)) (.cons (.op .ne (.sst (.var 4)) (.var 4)) .nil))) .nil) [4]) (.lst .nil)) (.cons (.op .lt (.lset (.var 3)) (.bi .len (.cons (.var 3) .nil))) (.cons (.op .ne (.lc (.var 5) (.nm 5) (.seq (.var 3)) (.cons (.not (.ch .le .lt (.con (.int 0)) (.var 5) (.var 0))) .nil) [5]) (.lst .nil)) .nil))))) (.cons (.ret (.con (.bool false))) .nil) .nil) (.cons (.ite (.op .ne (.lc (.var 4) (.nm 4) (.seq (.var 2)) (.cons (.not (.call "_law_joined" (.cons (.var 4) (.cons (.var 1) .nil)))) .nil) [4]) (.lst .nil)) (.cons (.ret (.con (.bool false))) .nil) .nil) (.cons (.for (.nm 6) (.rng (.cons (.con (.int 4)) .nil)) (.cons (.for (.nm 7) (.rng (.cons (.var 6) .nil)) (.cons (.ite (.op .eq (.lc (.con (.int 1)) (.tp (.cons (.nm 8) (.cons (.nm 9) .nil))) (.seq (.var 1)) (.cons (.bool false (.cons (.bool true (.cons (.op .isIn (.var 8) (.idx (.var 2) (.var 6))) (.cons (.op .isIn (.var 9) (.idx (.var 2) (.var 7))) .nil))) (.cons (.bool true (.cons (.op .isIn (.var 9) (.idx (.var 2) (.var 6))) (.cons (.op .isIn (.var 8) (.idx (.var 2) (.var 7))) .nil))) .nil))) .nil) [8, 9]) (.lst .nil)) (.cons (.ret (.con (.bool false))) .nil) .nil) .nil) [7]) .nil) [6, 7]) (.cons (.ret (.con (.bool true))) .nil)))))
def n_law_are_four : List Str := ["nodes", "pairs", "told", "every", "some", "v", "s", "t", "a", "b"]
def f_law_are_four : FD := ⟨"_law_are_four", ⟨3, 10, false, b_law_are_four⟩, n_law_are_four, topS 27⟩
def b_law_has_four : Sms := (.cons (.asg false 2 (.lst (.cons (.lst (.cons (.lst .nil) (.cons (.lst .nil) (.cons (.lst .nil) (.cons (.lst .nil) .nil))))) .nil))) (.cons (.for (.nm 3) (.rng (.cons (.var 0) .nil)) (.cons (.asg true 4 (.lst .nil)) (.cons (.for (.nm 5) (.seq (.var 2)) (.cons (.for (.nm 6) (.rng (.cons (.con (.int 4)) .nil)) (.cons (.ite (.bool false (.cons (.op .eq (.var 6) (.con (.int 0))) (.cons (.op .ne (.idx (.var 5) (.op .sub (.var 6) (.con (.int 1)))) (.lst .nil)) .nil))) (.cons (.app 4 (.op .add (.op .add (.cut (.var 5) none (some (.var 6))) (.lst (.cons (.op .add (.idx (.var 5) (.var 6)) (.lst (.cons (.var 3) .nil))) .nil))) (.cut (.var 5) (some (.op .add (.var 6) (.con (.int 1)))) none))) .nil) .nil) .nil) [6]) .nil) [5, 6]) (.cons (.asg false 2 (.op .add (.var 2) (.var 4))) .nil))) [3, 4, 5, 6]) (.cons (.ret (.op .ne (.lc (.var 5) (.nm 5) (.seq (.var 2)) (.cons (.call "_law_are_four" (.cons (.var 0) (.cons (.var 1) (.cons (.var 5) .nil)))) .nil) [5]) (.lst .nil))) .nil)))
def n_law_has_four : List Str := ["nodes", "pairs", "rows", "v", "more", "row", "s"]
def f_law_has_four : FD := ⟨"_law_has_four", ⟨2, 7, false, b_law_has_four⟩, n_law_has_four, topS 28⟩
def b_law_form : Sms := (.cons (.asg false 2 (.lc (.tup (.cons (.var 3) (.cons (.op .add (.var 3) (.con (.int 1))) .nil))) (.nm 3) (.rng (.cons (.op .sub (.var 1) (.con (.int 1))) .nil)) .nil [3])) (.cons (.asg false 4 (.op .add (.var 2) (.op .mul (.lst (.cons (.tup (.cons (.con (.int 0)) (.cons (.op .sub (.var 1) (.con (.int 1))) .nil))) .nil)) (.bi .int (.cons (.op .gt (.var 1) (.con (.int 2))) .nil))))) (.cons (.ite (.op .eq (.var 0) (.con (.int 0))) (.cons (.ret (.tup (.cons (.var 2) (.cons (.con (.bool true)) .nil)))) .nil) .nil) (.cons (.ite (.op .eq (.var 0) (.con (.int 1))) (.cons (.ret (.tup (.cons (.var 4) (.cons (.con (.bool true)) .nil)))) .nil) .nil) (.cons (.ite (.op .eq (.var 0) (.con (.int 2))) (.cons (.ret (.tup (.cons (.lc (.tup (.cons (.con (.int 0)) (.cons (.var 3) .nil))) (.nm 3) (.rng (.cons (.con (.int 1)) (.cons (.var 1) .nil))) .nil [3]) (.cons (.con (.bool true)) .nil)))) .nil) .nil) (.cons (.ite (.op .eq (.var 0) (.con (.int 3))) (.cons (.ret (.tup (.cons (.op .add (.lc (.tup (.cons (.con (.int 0)) (.cons (.var 3) .nil))) (.nm 3) (.rng (.cons (.con (.int 1)) (.cons (.var 1) .nil))) .nil [3]) (.lc (.tup (.cons (.var 3) (.cons (.op .add (.var 3) (.con (.int 1))) .nil))) (.nm 3) (.rng (.cons (.con (.int 1)) (.cons (.op .sub (.var 1) (.con (.int 1))) .nil))) .nil [3])) (.cons (.con (.bool true)) .nil)))) .nil) .nil) (.cons (.ite (.op .eq (.var 0) (.con (.int 4))) (.cons (.asg false 5 (.op .fdiv (.var 1) (.con (.int 2)))) (.cons (.ret (.tup (.cons (.op .add (.op .add (.lc (.tup (.cons (.var 3) (.cons (.op .add (.var 3) (.con (.int 1))) .nil))) (.nm 3) (.rng (.cons (.op .sub (.var 5) (.con (.int 1))) .nil)) .nil [3]) (.lc (.tup (.cons (.op .add (.var 5) (.var 3)) (.cons (.op .add (.op .add (.var 5) (.var 3)) (.con (.int 1))) .nil))) (.nm 3) (.rng (.cons (.op .sub (.var 5) (.con (.int 1))) .nil)) .nil [3])) (.lc (.tup (.cons (.var 3) (.cons (.op .add (.var 5) (.var 3)) .nil))) (.nm 3) (.rng (.cons (.var 5) .nil)) .nil [3])) (.cons (.con (.bool true)) .nil)))) .nil)) .nil) (.cons (.ite (.op .eq (.var 0) (.con (.int 5))) (.cons (.ret (.tup (.cons (.op .add (.op .add (.lc (.tup (.cons (.con (.int 0)) (.cons (.var 3) .nil))) (.nm 3) (.rng (.cons (.con (.int 1)) (.cons (.var 1) .nil))) .nil [3]) (.lc (.tup (.cons (.var 3) (.cons (.op .add (.var 3) (.con (.int 1))) .nil))) (.nm 3) (.rng (.cons (.con (.int 1)) (.cons (.op .sub (.var 1) (.con (.int 1))) .nil))) .nil [3])) (.op .mul (.lst (.cons (.tup (.cons (.con (.int 1)) (.cons (.op .sub (.var 1) (.con (.int 1))) .nil))) .nil)) (.bi .int (.cons (.op .gt (.var 1) (.con (.int 3))) .nil)))) (.cons (.op .lt (.var 1) (.con (.int 4))) .nil)))) .nil) .nil) (.cons (.ite (.op .eq (.var 0) (.con (.int 6))) (.cons (.asg false 6 (.bi .min2 (.cons (.var 1) (.cons (.con (.int 5)) .nil)))) (.cons (.ret (.tup (.cons (.bi .sumL (.cons (.lc (.lc (.tup (.cons (.var 3) (.cons (.var 7) .nil))) (.nm 7) (.rng (.cons (.op .add (.var 3) (.con (.int 1))) (.cons (.var 6) .nil))) .nil [7]) (.nm 3) (.rng (.cons (.var 6) .nil)) .nil [3]) (.cons (.lst .nil) .nil))) (.cons (.op .lt (.var 6) (.con (.int 4))) .nil)))) .nil)) .nil) (.cons (.ret (.tup (.cons (.op .add (.var 4) (.op .mul (.lst (.cons (.tup (.cons (.con (.int 0)) (.cons (.con (.int 2)) .nil))) (.cons (.tup (.cons (.con (.int 1)) (.cons (.con (.int 3)) .nil))) .nil))) (.bi .int (.cons (.op .gt (.var 1) (.con (.int 3))) .nil)))) (.cons (.op .lt (.var 1) (.con (.int 4))) .nil)))) .nil))))))))))
def n_law_form : List Str := ["kind", "nodes", "row", "v", "ring", "half", "few", "w"]
def f_law_form : FD := ⟨"_law_form", ⟨2, 8, false, b_law_form⟩, n_law_form, topS 29⟩
def b_law_whole : Sms := (.cons (.ret (.tup (.cons (.var 0) (.cons (.lc (.tup (.cons (.var 3) (.cons (.var 4) (.cons (.tup (.cons (.op .add (.con (.int 1)) (.op .mul (.con (.int 2)) (.op .mod (.bi .int (.cons (.var 2) .nil)) (.con (.int 3))))) (.cons (.op .add (.con (.int 1)) (.op .mod (.bi .int (.cons (.var 2) .nil)) (.con (.int 2)))) .nil))) (.cons (.tup (.cons (.con (.int 0)) (.cons (.con (.int 1)) .nil))) .nil))))) (.tp (.cons (.nm 2) (.cons (.tp (.cons (.nm 3) (.cons (.nm 4) .nil))) .nil))) (.enum (.var 1)) .nil [2, 3, 4]) .nil)))) .nil)
def n_law_whole : List Str := ["nodes", "pairs", "t", "a", "b"]
def f_law_whole : FD := ⟨"_law_whole", ⟨2, 5, false, b_law_whole⟩, n_law_whole, topS 30⟩
def b_law : Sms := (.cons (.asg false 1 (.call "_law_draws" (.cons (.var 0) .nil))) (.cons (.for (.nm 2) (.rng (.cons (.con (.int 2)) .nil)) (.cons (.par [3, 4] (.cons (.op .add (.con (.int 10)) (.op .mul (.con (.int 60)) (.var 2))) (.cons (.op .add (.con (.int 1)) (.call "_law_mix" (.cons (.var 1) (.cons (.op .add (.con (.int 10)) (.op .mul (.con (.int 60)) (.var 2))) (.cons (.con (.int 5)) .nil))))) .nil))) (.cons (.asg true 5 (.lst .nil)) (.cons (.for (.nm 6) (.rng (.cons (.op .mul (.call "_law_mix" (.cons (.var 1) (.cons (.op .add (.var 3) (.con (.int 1))) (.cons (.con (.int 9)) .nil)))) (.bi .int (.cons (.op .gt (.var 4) (.con (.int 1))) .nil))) .nil)) (.cons (.asg false 7 (.call "_law_mix" (.cons (.var 1) (.cons (.op .add (.op .add (.var 3) (.con (.int 2))) (.op .mul (.con (.int 2)) (.var 6))) (.cons (.op .sub (.var 4) (.con (.int 1))) .nil))))) (.cons (.app 5 (.tup (.cons (.var 7) (.cons (.op .add (.op .add (.var 7) (.con (.int 1))) (.call "_law_mix" (.cons (.var 1) (.cons (.op .add (.op .add (.var 3) (.con (.int 3))) (.op .mul (.con (.int 2)) (.var 6))) (.cons (.op .sub (.op .sub (.var 4) (.con (.int 1))) (.var 7)) .nil))))) .nil)))) .nil)) [6, 7]) (.cons (.frz 5) (.cons (.par [8, 9] (.cons (.call "_law_whole" (.cons (.var 4) (.cons (.var 5) .nil))) (.cons (.call "_law_has_four" (.cons (.var 4) (.cons (.var 5) .nil))) .nil))) (.cons (.asg false 10 (.call "four_sets" (.cons (.var 8) .nil))) (.cons (.frz 5) (.cons (.ite (.bool false (.cons (.op .eq (.call "is_plain" (.cons (.var 8) .nil)) (.var 9)) (.cons (.op .eq (.op .is (.var 10) (.con .none)) (.var 9)) (.cons (.bool true (.cons (.op .isNot (.var 10) (.con .none)) (.cons (.bool false (.cons (.not (.call "_law_are_four" (.cons (.var 4) (.cons (.var 5) (.cons (.var 10) .nil))))) (.cons (.op .isNot (.call "are_four_sets" (.cons (.var 8) (.cons (.var 10) .nil))) (.con (.bool true))) .nil))) .nil))) .nil)))) (.cons (.ret (.con (.bool false))) .nil) .nil) (.cons (.for (.nm 6) (.rng (.cons (.con (.int 8)) .nil)) (.cons (.own2 11 4) (.cons (.for (.nm 12) (.rng (.cons (.var 4) .nil)) (.cons (.asg false 13 (.call "_law_mix" (.cons (.var 1) (.cons (.op .add (.op .add (.op .add (.var 3) (.con (.int 22))) (.op .mul (.con (.int 6)) (.var 6))) (.var 12)) (.cons (.con (.int 5)) .nil))))) (.cons (.ite (.op .lt (.var 13) (.con (.int 4))) (.cons (.app2 11 (.var 13) (.var 12)) .nil) .nil) .nil)) [12, 13]) (.cons (.frz 11) (.cons (.frz 5) (.cons (.ite (.op .ne (.call "are_four_sets" (.cons (.var 8) (.cons (.var 11) .nil))) (.call "_law_are_four" (.cons (.var 4) (.cons (.var 5) (.cons (.var 11) .nil))))) (.cons (.ret (.con (.bool false))) .nil) .nil) .nil))))) [6, 11, 12, 13]) (.cons (.ite (.op .isNot (.var 10) (.con .none)) (.cons (.for (.nm 11) (.seq (.lst (.cons (.rev (.var 10)) (.cons (.cut (.var 10) (some (.con (.int 1))) none) (.cons (.op .add (.var 10) (.lst (.cons (.lst .nil) .nil))) (.cons (.op .add (.lst (.cons (.rev (.idx (.var 10) (.con (.int 0)))) .nil)) (.cut (.var 10) (some (.con (.int 1))) none)) (.cons (.op .add (.lst (.cons (.op .add (.idx (.var 10) (.con (.int 0))) (.cut (.idx (.var 10) (.con (.int 1))) none (some (.con (.int 1))))) .nil)) (.cut (.var 10) (some (.con (.int 1))) none)) (.cons (.op .add (.lst (.cons (.op .add (.idx (.var 10) (.con (.int 0))) (.lst (.cons (.var 4) .nil))) .nil)) (.cut (.var 10) (some (.con (.int 1))) none)) (.cons (.op .add (.lst (.cons (.lst .nil) .nil)) (.cut (.var 10) (some (.con (.int 1))) none)) .nil))))))))) (.cons (.frz 11) (.cons (.frz 5) (.cons (.ite (.op .ne (.call "are_four_sets" (.cons (.var 8) (.cons (.var 11) .nil))) (.call "_law_are_four" (.cons (.var 4) (.cons (.var 5) (.cons (.var 11) .nil))))) (.cons (.ret (.con (.bool false))) .nil) .nil) .nil))) [11]) .nil) .nil) (.cons (.ite (.bool true (.cons (.not (.var 9)) (.cons (.op .ne (.var 5) (.lst .nil)) .nil))) (.cons (.asg false 14 (.call "_law_mix" (.cons (.var 1) (.cons (.op .add (.var 3) (.con (.int 21))) (.cons (.bi .len (.cons (.var 5) .nil)) .nil))))) (.cons (.ite (.not (.call "is_plain" (.cons (.call "_law_whole" (.cons (.var 4) (.cons (.op .add (.cut (.var 5) none (some (.var 14))) (.cut (.var 5) (some (.op .add (.var 14) (.con (.int 1)))) none)) .nil))) .nil))) (.cons (.ret (.con (.bool false))) .nil) .nil) .nil)) .nil) .nil))))))))))) [2, 3, 4, 5, 6, 7, 8, 9, 10, 11, 12, 13, 14]) (.cons (.for (.nm 15) (.rng (.cons (.con (.int 8)) .nil)) (.cons (.asg false 4 (.op .add (.con (.int 2)) (.call "_law_mix" (.cons (.var 1) (.cons (.op .add (.con (.int 140)) (.var 15)) (.cons (.con (.int 6)) .nil)))))) (.cons (.asg false 4 (.idx (.lst (.cons (.var 4) (.cons (.op .mul (.con (.int 2)) (.op .fdiv (.var 4) (.con (.int 2)))) .nil))) (.bi .int (.cons (.op .eq (.var 15) (.con (.int 4))) .nil)))) (.cons (.asgp (.tp (.cons (.nm 5) (.cons (.nm 16) .nil))) (.call "_law_form" (.cons (.var 15) (.cons (.var 4) .nil)))) (.cons (.frz 5) (.cons (.asg false 17 (.idx (.lst (.cons (.var 5) (.cons (.op .add (.var 5) (.cut (.var 5) none (some (.con (.int 1))))) (.cons (.op .add (.var 5) (.lst (.cons (.tup (.cons (.con (.int 0)) (.cons (.var 4) .nil))) .nil))) (.cons (.op .add (.lst (.cons (.tup (.cons (.con (.int 0)) (.cons (.var 4) .nil))) (.cons (.tup (.cons (.idx (.idx (.var 5) (.con (.int 0))) (.con (.int 1))) (.cons (.var 4) .nil))) .nil))) (.cut (.var 5) (some (.con (.int 1))) none)) .nil))))) (.call "_law_mix" (.cons (.var 1) (.cons (.op .add (.con (.int 150)) (.var 15)) (.cons (.con (.int 4)) .nil)))))) (.cons (.ite (.op .ne (.idx (.idx (.var 5) (.con (.int 0))) (.con (.int 0))) (.con (.int 0))) (.cons (.frz 5) (.cons (.asg false 17 (.var 5)) .nil)) .nil) (.cons (.asg false 8 (.call "_law_whole" (.cons (.op .add (.var 4) (.con (.int 1))) (.cons (.var 17) .nil)))) (.cons (.ite (.bool true (.cons (.op .lt (.bi .len (.cons (.var 17) .nil)) (.con (.int 15))) (.cons (.bool false (.cons (.op .ne (.call "is_plain" (.cons (.var 8) .nil)) (.var 16)) (.cons (.op .ne (.op .is (.call "four_sets" (.cons (.var 8) .nil)) (.con .none)) (.var 16)) .nil))) .nil))) (.cons (.ret (.con (.bool false))) .nil) .nil) .nil)))))))) [15, 4, 5, 16, 17, 8]) (.cons (.ret (.con (.bool true))) .nil))))
def n_law : List Str := ["script", "draws", "turn", "k", "nodes", "pairs", "t", "a", "grid", "crossed", "found", "told", "v", "s", "at", "kind", "plain", "wide"]
def f_law : FD := ⟨"law", ⟨1, 18, false, b_law⟩, n_law, topS 31⟩
def fds : List FD := [f_is_fraction, f_is_line, f_check_grid, f_joined_with, f_pairs_of, f_ends_of, f_worn, f_lines_of, f_is_plain, f_fewer, f_four_sets, f_are_four_sets, f_law_draws, f_law_mix, f_law_joined, f_law_are_four, f_law_has_four, f_law_form, f_law_whole, f_law]
def sg : Sg := ⟨["is_fraction", "is_line", "check_grid", "joined_with", "pairs_of", "ends_of", "worn", "lines_of", "is_plain", "fewer", "four_sets", "are_four_sets", "_law_draws", "_law_mix", "_law_joined", "_law_are_four", "_law_has_four", "_law_form", "_law_whole", "law"], [("MOST_LINES", 14), ("MOST_NODES", 8)], true⟩
theorem nd : (fds.map FD.nm).Nodup := by decide +kernel
theorem lk (f : FD) (h : f ∈ fds) : (tabOf fds).lookup f.nm = some f.d := lookup_of nd h
abbrev CG (N k : Nat) : Cfg := ⟨cal (tabOf fds) N k, (tabOf fds).frs⟩
theorem c_is_fraction (N k : Nat) (ds : List D) (h : ds.length = 1) : cal (tabOf fds) N (k + 1) "is_fraction" ds = (exs (CG N k) N b_is_fraction (ds.map .val ++ List.replicate 0 .no)).bind (endD false) := by
  show ((tabOf fds).lookup f_is_fraction.nm).bind _ = _
  rw [lk f_is_fraction (by simp [fds])]
  exact run_def h
theorem fr_is_fraction : (tabOf fds).frs "is_fraction" = false := frs_of (lk f_is_fraction (by simp [fds]))
theorem c_is_line (N k : Nat) (ds : List D) (h : ds.length = 2) : cal (tabOf fds) N (k + 1) "is_line" ds = (exs (CG N k) N b_is_line (ds.map .val ++ List.replicate 4 .no)).bind (endD false) := by
  show ((tabOf fds).lookup f_is_line.nm).bind _ = _
  rw [lk f_is_line (by simp [fds])]
  exact run_def h
theorem fr_is_line : (tabOf fds).frs "is_line" = false := frs_of (lk f_is_line (by simp [fds]))
theorem c_check_grid (N k : Nat) (ds : List D) (h : ds.length = 1) : cal (tabOf fds) N (k + 1) "check_grid" ds = (exs (CG N k) N b_check_grid (ds.map .val ++ List.replicate 4 .no)).bind (endD false) := by
  show ((tabOf fds).lookup f_check_grid.nm).bind _ = _
  rw [lk f_check_grid (by simp [fds])]
  exact run_def h
theorem fr_check_grid : (tabOf fds).frs "check_grid" = false := frs_of (lk f_check_grid (by simp [fds]))
theorem c_joined_with (N k : Nat) (ds : List D) (h : ds.length = 2) : cal (tabOf fds) N (k + 1) "joined_with" ds = (exs (CG N k) N b_joined_with (ds.map .val ++ List.replicate 6 .no)).bind (endD true) := by
  show ((tabOf fds).lookup f_joined_with.nm).bind _ = _
  rw [lk f_joined_with (by simp [fds])]
  exact run_def h
theorem fr_joined_with : (tabOf fds).frs "joined_with" = true := frs_of (lk f_joined_with (by simp [fds]))
theorem c_pairs_of (N k : Nat) (ds : List D) (h : ds.length = 2) : cal (tabOf fds) N (k + 1) "pairs_of" ds = (exs (CG N k) N b_pairs_of (ds.map .val ++ List.replicate 7 .no)).bind (endD true) := by
  show ((tabOf fds).lookup f_pairs_of.nm).bind _ = _
  rw [lk f_pairs_of (by simp [fds])]
  exact run_def h
theorem fr_pairs_of : (tabOf fds).frs "pairs_of" = true := frs_of (lk f_pairs_of (by simp [fds]))
theorem c_ends_of (N k : Nat) (ds : List D) (h : ds.length = 2) : cal (tabOf fds) N (k + 1) "ends_of" ds = (exs (CG N k) N b_ends_of (ds.map .val ++ List.replicate 2 .no)).bind (endD true) := by
  show ((tabOf fds).lookup f_ends_of.nm).bind _ = _
  rw [lk f_ends_of (by simp [fds])]
  exact run_def h
theorem fr_ends_of : (tabOf fds).frs "ends_of" = true := frs_of (lk f_ends_of (by simp [fds]))
theorem c_worn (N k : Nat) (ds : List D) (h : ds.length = 1) : cal (tabOf fds) N (k + 1) "worn" ds = (exs (CG N k) N b_worn (ds.map .val ++ List.replicate 5 .no)).bind (endD false) := by
  show ((tabOf fds).lookup f_worn.nm).bind _ = _
  rw [lk f_worn (by simp [fds])]
  exact run_def h
theorem fr_worn : (tabOf fds).frs "worn" = false := frs_of (lk f_worn (by simp [fds]))
theorem c_lines_of (N k : Nat) (ds : List D) (h : ds.length = 1) : cal (tabOf fds) N (k + 1) "lines_of" ds = (exs (CG N k) N b_lines_of (ds.map .val ++ List.replicate 3 .no)).bind (endD true) := by
  show ((tabOf fds).lookup f_lines_of.nm).bind _ = _
  rw [lk f_lines_of (by simp [fds])]
  exact run_def h
theorem fr_lines_of : (tabOf fds).frs "lines_of" = true := frs_of (lk f_lines_of (by simp [fds]))
theorem c_is_plain (N k : Nat) (ds : List D) (h : ds.length = 1) : cal (tabOf fds) N (k + 1) "is_plain" ds = (exs (CG N k) N b_is_plain (ds.map .val ++ List.replicate 1 .no)).bind (endD false) := by
  show ((tabOf fds).lookup f_is_plain.nm).bind _ = _
  rw [lk f_is_plain (by simp [fds])]
  exact run_def h
theorem fr_is_plain : (tabOf fds).frs "is_plain" = false := frs_of (lk f_is_plain (by simp [fds]))
theorem c_fewer (N k : Nat) (ds : List D) (h : ds.length = 2) : cal (tabOf fds) N (k + 1) "fewer" ds = (exs (CG N k) N b_fewer (ds.map .val ++ List.replicate 6 .no)).bind (endD false) := by
  show ((tabOf fds).lookup f_fewer.nm).bind _ = _
  rw [lk f_fewer (by simp [fds])]
  exact run_def h
theorem fr_fewer : (tabOf fds).frs "fewer" = false := frs_of (lk f_fewer (by simp [fds]))
theorem c_four_sets (N k : Nat) (ds : List D) (h : ds.length = 1) : cal (tabOf fds) N (k + 1) "four_sets" ds = (exs (CG N k) N b_four_sets (ds.map .val ++ List.replicate 3 .no)).bind (endD false) := by
  show ((tabOf fds).lookup f_four_sets.nm).bind _ = _
  rw [lk f_four_sets (by simp [fds])]
  exact run_def h
theorem fr_four_sets : (tabOf fds).frs "four_sets" = false := frs_of (lk f_four_sets (by simp [fds]))
theorem c_are_four_sets (N k : Nat) (ds : List D) (h : ds.length = 2) : cal (tabOf fds) N (k + 1) "are_four_sets" ds = (exs (CG N k) N b_are_four_sets (ds.map .val ++ List.replicate 7 .no)).bind (endD false) := by
  show ((tabOf fds).lookup f_are_four_sets.nm).bind _ = _
  rw [lk f_are_four_sets (by simp [fds])]
  exact run_def h
theorem fr_are_four_sets : (tabOf fds).frs "are_four_sets" = false := frs_of (lk f_are_four_sets (by simp [fds]))
theorem c_law_draws (N k : Nat) (ds : List D) (h : ds.length = 1) : cal (tabOf fds) N (k + 1) "_law_draws" ds = (exs (CG N k) N b_law_draws (ds.map .val ++ List.replicate 5 .no)).bind (endD false) := by
  show ((tabOf fds).lookup f_law_draws.nm).bind _ = _
  rw [lk f_law_draws (by simp [fds])]
  exact run_def h
theorem fr_law_draws : (tabOf fds).frs "_law_draws" = false := frs_of (lk f_law_draws (by simp [fds]))
theorem c_law_mix (N k : Nat) (ds : List D) (h : ds.length = 3) : cal (tabOf fds) N (k + 1) "_law_mix" ds = (exs (CG N k) N b_law_mix (ds.map .val ++ List.replicate 1 .no)).bind (endD false) := by
  show ((tabOf fds).lookup f_law_mix.nm).bind _ = _
  rw [lk f_law_mix (by simp [fds])]
  exact run_def h
theorem fr_law_mix : (tabOf fds).frs "_law_mix" = false := frs_of (lk f_law_mix (by simp [fds]))
theorem c_law_joined (N k : Nat) (ds : List D) (h : ds.length = 2) : cal (tabOf fds) N (k + 1) "_law_joined" ds = (exs (CG N k) N b_law_joined (ds.map .val ++ List.replicate 5 .no)).bind (endD false) := by
  show ((tabOf fds).lookup f_law_joined.nm).bind _ = _
  rw [lk f_law_joined (by simp [fds])]
  exact run_def h
theorem fr_law_joined : (tabOf fds).frs "_law_joined" = false := frs_of (lk f_law_joined (by simp [fds]))
theorem c_law_are_four (N k : Nat) (ds : List D) (h : ds.length = 3) : cal (tabOf fds) N (k + 1) "_law_are_four" ds = (exs (CG N k) N b_law_are_four (ds.map .val ++ List.replicate 7 .no)).bind (endD false) := by
  show ((tabOf fds).lookup f_law_are_four.nm).bind _ = _
  rw [lk f_law_are_four (by simp [fds])]
  exact run_def h
theorem fr_law_are_four : (tabOf fds).frs "_law_are_four" = false := frs_of (lk f_law_are_four (by simp [fds]))
theorem c_law_has_four (N k : Nat) (ds : List D) (h : ds.length = 2) : cal (tabOf fds) N (k + 1) "_law_has_four" ds = (exs (CG N k) N b_law_has_four (ds.map .val ++ List.replicate 5 .no)).bind (endD false) := by
  show ((tabOf fds).lookup f_law_has_four.nm).bind _ = _
  rw [lk f_law_has_four (by simp [fds])]
  exact run_def h
theorem fr_law_has_four : (tabOf fds).frs "_law_has_four" = false := frs_of (lk f_law_has_four (by simp [fds]))
theorem c_law_form (N k : Nat) (ds : List D) (h : ds.length = 2) : cal (tabOf fds) N (k + 1) "_law_form" ds = (exs (CG N k) N b_law_form (ds.map .val ++ List.replicate 6 .no)).bind (endD false) := by
  show ((tabOf fds).lookup f_law_form.nm).bind _ = _
  rw [lk f_law_form (by simp [fds])]
  exact run_def h
theorem fr_law_form : (tabOf fds).frs "_law_form" = false := frs_of (lk f_law_form (by simp [fds]))
theorem c_law_whole (N k : Nat) (ds : List D) (h : ds.length = 2) : cal (tabOf fds) N (k + 1) "_law_whole" ds = (exs (CG N k) N b_law_whole (ds.map .val ++ List.replicate 3 .no)).bind (endD false) := by
  show ((tabOf fds).lookup f_law_whole.nm).bind _ = _
  rw [lk f_law_whole (by simp [fds])]
  exact run_def h
theorem fr_law_whole : (tabOf fds).frs "_law_whole" = false := frs_of (lk f_law_whole (by simp [fds]))
theorem c_law (N k : Nat) (ds : List D) (h : ds.length = 1) : cal (tabOf fds) N (k + 1) "law" ds = (exs (CG N k) N b_law (ds.map .val ++ List.replicate 17 .no)).bind (endD false) := by
  show ((tabOf fds).lookup f_law.nm).bind _ = _
  rw [lk f_law (by simp [fds])]
  exact run_def h
theorem fr_law : (tabOf fds).frs "law" = false := frs_of (lk f_law (by simp [fds]))
end K19

set_option Elab.async false
set_option linter.all false
set_option maxRecDepth 100000
set_option maxHeartbeats 4000000
namespace K19
open PySem Pv
def lawP : Sms := (.cons (.asg false 7 (.call "_law_mix" (.cons (.var 1) (.cons (.op .add (.op .add (.var 3) (.con (.int 2))) (.op .mul (.con (.int 2)) (.var 6))) (.cons (.op .sub (.var 4) (.con (.int 1))) .nil))))) (.cons (.app 5 (.tup (.cons (.var 7) (.cons (.op .add (.op .add (.var 7) (.con (.int 1))) (.call "_law_mix" (.cons (.var 1) (.cons (.op .add (.op .add (.var 3) (.con (.int 3))) (.op .mul (.con (.int 2)) (.var 6))) (.cons (.op .sub (.op .sub (.var 4) (.con (.int 1))) (.var 7)) .nil))))) .nil)))) .nil))
def lawV : Sms := (.cons (.asg false 13 (.call "_law_mix" (.cons (.var 1) (.cons (.op .add (.op .add (.op .add (.var 3) (.con (.int 22))) (.op .mul (.con (.int 6)) (.var 6))) (.var 12)) (.cons (.con (.int 5)) .nil))))) (.cons (.ite (.op .lt (.var 13) (.con (.int 4))) (.cons (.app2 11 (.var 13) (.var 12)) .nil) .nil) .nil))
def lawT : Sms := (.cons (.own2 11 4) (.cons (.for (.nm 12) (.rng (.cons (.var 4) .nil)) lawV [12, 13]) (.cons (.frz 11) (.cons (.frz 5) (.cons (.ite (.op .ne (.call "are_four_sets" (.cons (.var 8) (.cons (.var 11) .nil))) (.call "_law_are_four" (.cons (.var 4) (.cons (.var 5) (.cons (.var 11) .nil))))) (.cons (.ret (.con (.bool false))) .nil) .nil) .nil)))))
def lawF : Sms := (.cons (.frz 11) (.cons (.frz 5) (.cons (.ite (.op .ne (.call "are_four_sets" (.cons (.var 8) (.cons (.var 11) .nil))) (.call "_law_are_four" (.cons (.var 4) (.cons (.var 5) (.cons (.var 11) .nil))))) (.cons (.ret (.con (.bool false))) .nil) .nil) .nil)))
def lawB1 : Sms := (.cons (.par [3, 4] (.cons (.op .add (.con (.int 10)) (.op .mul (.con (.int 60)) (.var 2))) (.cons (.op .add (.con (.int 1)) (.call "_law_mix" (.cons (.var 1) (.cons (.op .add (.con (.int 10)) (.op .mul (.con (.int 60)) (.var 2))) (.cons (.con (.int 5)) .nil))))) .nil))) (.cons (.asg true 5 (.lst .nil)) (.cons (.for (.nm 6) (.rng (.cons (.op .mul (.call "_law_mix" (.cons (.var 1) (.cons (.op .add (.var 3) (.con (.int 1))) (.cons (.con (.int 9)) .nil)))) (.bi .int (.cons (.op .gt (.var 4) (.con (.int 1))) .nil))) .nil)) lawP [6, 7]) (.cons (.frz 5) (.cons (.par [8, 9] (.cons (.call "_law_whole" (.cons (.var 4) (.cons (.var 5) .nil))) (.cons (.call "_law_has_four" (.cons (.var 4) (.cons (.var 5) .nil))) .nil))) (.cons (.asg false 10 (.call "four_sets" (.cons (.var 8) .nil))) (.cons (.frz 5) (.cons (.ite (.bool false (.cons (.op .eq (.call "is_plain" (.cons (.var 8) .nil)) (.var 9)) (.cons (.op .eq (.op .is (.var 10) (.con .none)) (.var 9)) (.cons (.bool true (.cons (.op .isNot (.var 10) (.con .none)) (.cons (.bool false (.cons (.not (.call "_law_are_four" (.cons (.var 4) (.cons (.var 5) (.cons (.var 10) .nil))))) (.cons (.op .isNot (.call "are_four_sets" (.cons (.var 8) (.cons (.var 10) .nil))) (.con (.bool true))) .nil))) .nil))) .nil)))) (.cons (.ret (.con (.bool false))) .nil) .nil) (.cons (.for (.nm 6) (.rng (.cons (.con (.int 8)) .nil)) lawT [6, 11, 12, 13]) (.cons (.ite (.op .isNot (.var 10) (.con .none)) (.cons (.for (.nm 11) (.seq (.lst (.cons (.rev (.var 10)) (.cons (.cut (.var 10) (some (.con (.int 1))) none) (.cons (.op .add (.var 10) (.lst (.cons (.lst .nil) .nil))) (.cons (.op .add (.lst (.cons (.rev (.idx (.var 10) (.con (.int 0)))) .nil)) (.cut (.var 10) (some (.con (.int 1))) none)) (.cons (.op .add (.lst (.cons (.op .add (.idx (.var 10) (.con (.int 0))) (.cut (.idx (.var 10) (.con (.int 1))) none (some (.con (.int 1))))) .nil)) (.cut (.var 10) (some (.con (.int 1))) none)) (.cons (.op .add (.lst (.cons (.op .add (.idx (.var 10) (.con (.int 0))) (.lst (.cons (.var 4) .nil))) .nil)) (.cut (.var 10) (some (.con (.int 1))) none)) (.cons (.op .add (.lst (.cons (.lst .nil) .nil)) (.cut (.var 10) (some (.con (.int 1))) none)) .nil))))))))) lawF [11]) .nil) .nil) (.cons (.ite (.bool true (.cons (.not (.var 9)) (.cons (.op .ne (.var 5) (.lst .nil)) .nil))) (.cons (.asg false 14 (.call "_law_mix" (.cons (.var 1) (.cons (.op .add (.var 3) (.con (.int 21))) (.cons (.bi .len (.cons (.var 5) .nil)) .nil))))) (.cons (.ite (.not (.call "is_plain" (.cons (.call "_law_whole" (.cons (.var 4) (.cons (.op .add (.cut (.var 5) none (some (.var 14))) (.cut (.var 5) (some (.op .add (.var 14) (.con (.int 1)))) none)) .nil))) .nil))) (.cons (.ret (.con (.bool false))) .nil) .nil) .nil)) .nil) .nil)))))))))))
def lawB2 : Sms := (.cons (.asg false 4 (.op .add (.con (.int 2)) (.call "_law_mix" (.cons (.var 1) (.cons (.op .add (.con (.int 140)) (.var 15)) (.cons (.con (.int 6)) .nil)))))) (.cons (.asg false 4 (.idx (.lst (.cons (.var 4) (.cons (.op .mul (.con (.int 2)) (.op .fdiv (.var 4) (.con (.int 2)))) .nil))) (.bi .int (.cons (.op .eq (.var 15) (.con (.int 4))) .nil)))) (.cons (.asgp (.tp (.cons (.nm 5) (.cons (.nm 16) .nil))) (.call "_law_form" (.cons (.var 15) (.cons (.var 4) .nil)))) (.cons (.frz 5) (.cons (.asg false 17 (.idx (.lst (.cons (.var 5) (.cons (.op .add (.var 5) (.cut (.var 5) none (some (.con (.int 1))))) (.cons (.op .add (.var 5) (.lst (.cons (.tup (.cons (.con (.int 0)) (.cons (.var 4) .nil))) .nil))) (.cons (.op .add (.lst (.cons (.tup (.cons (.con (.int 0)) (.cons (.var 4) .nil))) (.cons (.tup (.cons (.idx (.idx (.var 5) (.con (.int 0))) (.con (.int 1))) (.cons (.var 4) .nil))) .nil))) (.cut (.var 5) (some (.con (.int 1))) none)) .nil))))) (.call "_law_mix" (.cons (.var 1) (.cons (.op .add (.con (.int 150)) (.var 15)) (.cons (.con (.int 4)) .nil)))))) (.cons (.ite (.op .ne (.idx (.idx (.var 5) (.con (.int 0))) (.con (.int 0))) (.con (.int 0))) (.cons (.frz 5) (.cons (.asg false 17 (.var 5)) .nil)) .nil) (.cons (.asg false 8 (.call "_law_whole" (.cons (.op .add (.var 4) (.con (.int 1))) (.cons (.var 17) .nil)))) (.cons (.ite (.bool true (.cons (.op .lt (.bi .len (.cons (.var 17) .nil)) (.con (.int 15))) (.cons (.bool false (.cons (.op .ne (.call "is_plain" (.cons (.var 8) .nil)) (.var 16)) (.cons (.op .ne (.op .is (.call "four_sets" (.cons (.var 8) .nil)) (.con .none)) (.var 16)) .nil))) .nil))) (.cons (.ret (.con (.bool false))) .nil) .nil) .nil))))))))
theorem b_law_eq : b_law = (.cons (.asg false 1 (.call "_law_draws" (.cons (.var 0) .nil))) (.cons (.for (.nm 2) (.rng (.cons (.con (.int 2)) .nil)) lawB1 [2, 3, 4, 5, 6, 7, 8, 9, 10, 11, 12, 13, 14]) (.cons (.for (.nm 15) (.rng (.cons (.con (.int 8)) .nil)) lawB2 [15, 4, 5, 16, 17, 8]) (.cons (.ret (.con (.bool true))) .nil)))) := by rfl
end K19

set_option Elab.async false
set_option linter.all false
set_option maxRecDepth 100000
set_option maxHeartbeats 4000000
namespace K19
open PySem Pv
theorem p_mod {i j : Int} (h : 0 < j) : op2 .mod (.int i) (.int j) = some (.int (i % j)) := by
  show (if 0 < j then some (PyData.int (i % j)) else none) = _
  rw [if_pos h]
theorem p_fdiv {i j : Int} (h : 0 < j) (h2 : j.natAbs.log2 < 9000) : op2 .fdiv (.int i) (.int j) = some (.int (i / j)) := by
  show (if 0 < j ∧ j.natAbs.log2 < 9000 then some (PyData.int (i / j)) else none) = _
  rw [if_pos ⟨h, h2⟩]
theorem log_lt {n : Nat} (h : n < 2 ^ 64) : n.log2 < 64 := by
  by_cases z : n = 0
  · subst z; decide
  · exact (Nat.log2_lt z).mpr h
theorem p_mul {i j : Int} (h : i.natAbs < 2 ^ 64) (h2 : j.natAbs < 2 ^ 64) : op2 .mul (.int i) (.int j) = some (.int (i * j)) := by
  have l1 := log_lt h
  have l2 := log_lt h2
  show (if mulOk i j then some (PyData.int (i * j)) else none) = _
  rw [if_pos]
  unfold mulOk
  exact decide_eq_true (by omega)
theorem line_big : (1000000 : Nat) < line := by unfold line; rw [sizeLine_eq]; decide
theorem small {n : Nat} (h : n < 1000000) : n < line := Nat.lt_trans h line_big
theorem smallE {n : Nat} (h : n < 1000000) : n ≤ line := Nat.le_of_lt (small h)
theorem if_lt {α : Type} {n : Nat} {x y : α} (h : n < 1000000) : (if n < line then x else y) = x := if_pos (small h)
theorem if_le {α : Type} {n : Nat} {x y : α} (h : n < 1000000) : (if n ≤ line then x else y) = x := if_pos (smallE h)
theorem r_is_fraction (N k : Nat) (a b : Int) (hb : 0 < b) (hg : Nat.gcd a.natAbs b.natAbs = 1) : cal (tabOf fds) N (k + 1) "is_fraction" [.tuple [.int a, .int b]] = some (.bool true) := by
  rw [c_is_fraction _ _ _ rfl, b_is_fraction]
  simp only [turnE_nx, turnE_cnt, rd_0, rd_o, rd_of, rd_s, gO_0, gO_s, gO2_0, gO2_s, bp_nm, bp_tp, bps_nil, bps_cons, bp_eP, v_var, v_int, v_bool, v_str, v_none, v_glb, v_op, v_ch, v_ch3, v_neg, v_not, v_and, v_or, v_b1, v_ife, v_tup, v_lst, v_idx, v_bi, v_call, v_callB, v_rev, v_cut, v_p0, v_p1, vs_nil, vs_cons, f_0, f_1, i_s, i_r1, i_r2, i_e, i_z, v_lc, v_lc2, v_ssc, v_ssc2, v_sst, v_lset, x_nil, x_cons, t_nx, t_brk, t_cnt, t_ret, x_asgF, x_asgT, x_asgp, x_par, sets_nil, sets_cons, x_app, x_ext, x_exp, x_own2, x_newT, x_ret, x_ite, x_for, x_whl, x_frz, fz_o, fz_o2, fz_v, e_rF, e_rT, e_nF, sq_l, sq_t, sx_l, sx_t, sl_l, sq_L, sx_L, sl_L, sq_Ps, sx_Ps, sl_Ps, sq_G, sx_G, sl_G, sx_P, ai, ab, at0, at1, p_add, p_sub, p_lt, p_le, p_gt, p_ge, p_isB, p_isnB, p_isN, p_isnN, y_len, y_lenT, y_lenL, y_lenPs, y_lenG, y_int, y_intB, y_abs, y_min2, y_max2, y_gcd, y_list, y_listL, y_listPs, y_all, wipeE, frE, bib, Option.bind_some, Option.map_some, List.getD_cons_zero, List.getD_cons_succ, List.set_cons_zero, List.set_cons_succ, List.map_cons, List.map_nil, List.length_cons, List.length_nil, List.replicate, List.cons_append, List.nil_append, if_true, if_false, Bool.false_eq_true, Nat.reduceSub, Nat.reduceAdd, Nat.reduceLeDiff]
  simp only [hb, hg, o_eqI, turnE_nx, turnE_cnt, rd_0, rd_o, rd_of, rd_s, gO_0, gO_s, gO2_0, gO2_s, bp_nm, bp_tp, bps_nil, bps_cons, bp_eP, v_var, v_int, v_bool, v_str, v_none, v_glb, v_op, v_ch, v_ch3, v_neg, v_not, v_and, v_or, v_b1, v_ife, v_tup, v_lst, v_idx, v_bi, v_call, v_callB, v_rev, v_cut, v_p0, v_p1, vs_nil, vs_cons, f_0, f_1, i_s, i_r1, i_r2, i_e, i_z, v_lc, v_lc2, v_ssc, v_ssc2, v_sst, v_lset, x_nil, x_cons, t_nx, t_brk, t_cnt, t_ret, x_asgF, x_asgT, x_asgp, x_par, sets_nil, sets_cons, x_app, x_ext, x_exp, x_own2, x_newT, x_ret, x_ite, x_for, x_whl, x_frz, fz_o, fz_o2, fz_v, e_rF, e_rT, e_nF, sq_l, sq_t, sx_l, sx_t, sl_l, sq_L, sx_L, sl_L, sq_Ps, sx_Ps, sl_Ps, sq_G, sx_G, sl_G, sx_P, ai, ab, at0, at1, p_add, p_sub, p_lt, p_le, p_gt, p_ge, p_isB, p_isnB, p_isN, p_isnN, y_len, y_lenT, y_lenL, y_lenPs, y_lenG, y_int, y_intB, y_abs, y_min2, y_max2, y_gcd, y_list, y_listL, y_listPs, y_all, wipeE, frE, bib, Option.bind_some, Option.map_some, List.getD_cons_zero, List.getD_cons_succ, List.set_cons_zero, List.set_cons_succ, List.map_cons, List.map_nil, List.length_cons, List.length_nil, List.replicate, List.cons_append, List.nil_append, if_true, if_false, Bool.false_eq_true, Nat.reduceSub, Nat.reduceAdd, Nat.reduceLeDiff, decide_true]
  simp [e_rF]
def lineD (q : (Nat × Nat) × Nat) : D := .tuple [eN q.1.1, eN q.1.2, .tuple [.int (1 + 2 * ((q.2 : Int) % 3)), .int (1 + ((q.2 : Int) % 2))], .tuple [.int 0, .int 1]]
def gridD (n : Nat) (ps : List (Nat × Nat)) : D := .tuple [eN n, .list (ps.zipIdx.map lineD)]
theorem r_whole (N k n : Nat) (ps : List (Nat × Nat)) (hl : ps.length < 1000) : cal (tabOf fds) N (k + 1) "_law_whole" [eN n, ePs ps] = some (gridD n ps) := by
  rw [c_law_whole _ _ _ rfl, b_law_whole]
  simp only [turnE_nx, turnE_cnt, rd_0, rd_o, rd_of, rd_s, gO_0, gO_s, gO2_0, gO2_s, bp_nm, bp_tp, bps_nil, bps_cons, bp_eP, v_var, v_int, v_bool, v_str, v_none, v_glb, v_op, v_ch, v_ch3, v_neg, v_not, v_and, v_or, v_b1, v_ife, v_tup, v_lst, v_idx, v_bi, v_call, v_callB, v_rev, v_cut, v_p0, v_p1, vs_nil, vs_cons, f_0, f_1, i_s, i_r1, i_r2, i_e, i_z, v_lc, v_lc2, v_ssc, v_ssc2, v_sst, v_lset, x_nil, x_cons, t_nx, t_brk, t_cnt, t_ret, x_asgF, x_asgT, x_asgp, x_par, sets_nil, sets_cons, x_app, x_ext, x_exp, x_own2, x_newT, x_ret, x_ite, x_for, x_whl, x_frz, fz_o, fz_o2, fz_v, e_rF, e_rT, e_nF, sq_l, sq_t, sx_l, sx_t, sl_l, sq_L, sx_L, sl_L, sq_Ps, sx_Ps, sl_Ps, sq_G, sx_G, sl_G, sx_P, ai, ab, at0, at1, p_add, p_sub, p_lt, p_le, p_gt, p_ge, p_isB, p_isnB, p_isN, p_isnN, y_len, y_lenT, y_lenL, y_lenPs, y_lenG, y_int, y_intB, y_abs, y_min2, y_max2, y_gcd, y_list, y_listL, y_listPs, y_all, wipeE, frE, bib, Option.bind_some, Option.map_some, List.getD_cons_zero, List.getD_cons_succ, List.set_cons_zero, List.set_cons_succ, List.map_cons, List.map_nil, List.length_cons, List.length_nil, List.replicate, List.cons_append, List.nil_append, if_true, if_false, Bool.false_eq_true, Nat.reduceSub, Nat.reduceAdd, Nat.reduceLeDiff]
  rw [enum_map, lcGo_map _ _ lineD id _ fun q hq => ?_]
  · simp only [turnE_nx, turnE_cnt, rd_0, rd_o, rd_of, rd_s, gO_0, gO_s, gO2_0, gO2_s, bp_nm, bp_tp, bps_nil, bps_cons, bp_eP, v_var, v_int, v_bool, v_str, v_none, v_glb, v_op, v_ch, v_ch3, v_neg, v_not, v_and, v_or, v_b1, v_ife, v_tup, v_lst, v_idx, v_bi, v_call, v_callB, v_rev, v_cut, v_p0, v_p1, vs_nil, vs_cons, f_0, f_1, i_s, i_r1, i_r2, i_e, i_z, v_lc, v_lc2, v_ssc, v_ssc2, v_sst, v_lset, x_nil, x_cons, t_nx, t_brk, t_cnt, t_ret, x_asgF, x_asgT, x_asgp, x_par, sets_nil, sets_cons, x_app, x_ext, x_exp, x_own2, x_newT, x_ret, x_ite, x_for, x_whl, x_frz, fz_o, fz_o2, fz_v, e_rF, e_rT, e_nF, sq_l, sq_t, sx_l, sx_t, sl_l, sq_L, sx_L, sl_L, sq_Ps, sx_Ps, sl_Ps, sq_G, sx_G, sl_G, sx_P, ai, ab, at0, at1, p_add, p_sub, p_lt, p_le, p_gt, p_ge, p_isB, p_isnB, p_isN, p_isnN, y_len, y_lenT, y_lenL, y_lenPs, y_lenG, y_int, y_intB, y_abs, y_min2, y_max2, y_gcd, y_list, y_listL, y_listPs, y_all, wipeE, frE, bib, Option.bind_some, Option.map_some, List.getD_cons_zero, List.getD_cons_succ, List.set_cons_zero, List.set_cons_succ, List.map_cons, List.map_nil, List.length_cons, List.length_nil, List.replicate, List.cons_append, List.nil_append, if_true, if_false, Bool.false_eq_true, Nat.reduceSub, Nat.reduceAdd, Nat.reduceLeDiff, List.map_id, List.length_map, List.length_zipIdx]
    rw [if_lt (by omega)]
    simp only [turnE_nx, turnE_cnt, rd_0, rd_o, rd_of, rd_s, gO_0, gO_s, gO2_0, gO2_s, bp_nm, bp_tp, bps_nil, bps_cons, bp_eP, v_var, v_int, v_bool, v_str, v_none, v_glb, v_op, v_ch, v_ch3, v_neg, v_not, v_and, v_or, v_b1, v_ife, v_tup, v_lst, v_idx, v_bi, v_call, v_callB, v_rev, v_cut, v_p0, v_p1, vs_nil, vs_cons, f_0, f_1, i_s, i_r1, i_r2, i_e, i_z, v_lc, v_lc2, v_ssc, v_ssc2, v_sst, v_lset, x_nil, x_cons, t_nx, t_brk, t_cnt, t_ret, x_asgF, x_asgT, x_asgp, x_par, sets_nil, sets_cons, x_app, x_ext, x_exp, x_own2, x_newT, x_ret, x_ite, x_for, x_whl, x_frz, fz_o, fz_o2, fz_v, e_rF, e_rT, e_nF, sq_l, sq_t, sx_l, sx_t, sl_l, sq_L, sx_L, sl_L, sq_Ps, sx_Ps, sl_Ps, sq_G, sx_G, sl_G, sx_P, ai, ab, at0, at1, p_add, p_sub, p_lt, p_le, p_gt, p_ge, p_isB, p_isnB, p_isN, p_isnN, y_len, y_lenT, y_lenL, y_lenPs, y_lenG, y_int, y_intB, y_abs, y_min2, y_max2, y_gcd, y_list, y_listL, y_listPs, y_all, wipeE, frE, bib, Option.bind_some, Option.map_some, List.getD_cons_zero, List.getD_cons_succ, List.set_cons_zero, List.set_cons_succ, List.map_cons, List.map_nil, List.length_cons, List.length_nil, List.replicate, List.cons_append, List.nil_append, if_true, if_false, Bool.false_eq_true, Nat.reduceSub, Nat.reduceAdd, Nat.reduceLeDiff]
    rw [if_le (by omega)]
    rfl
  · obtain ⟨⟨a, b⟩, t⟩ := q
    simp only [elOf, turnE_nx, turnE_cnt, rd_0, rd_o, rd_of, rd_s, gO_0, gO_s, gO2_0, gO2_s, bp_nm, bp_tp, bps_nil, bps_cons, bp_eP, v_var, v_int, v_bool, v_str, v_none, v_glb, v_op, v_ch, v_ch3, v_neg, v_not, v_and, v_or, v_b1, v_ife, v_tup, v_lst, v_idx, v_bi, v_call, v_callB, v_rev, v_cut, v_p0, v_p1, vs_nil, vs_cons, f_0, f_1, i_s, i_r1, i_r2, i_e, i_z, v_lc, v_lc2, v_ssc, v_ssc2, v_sst, v_lset, x_nil, x_cons, t_nx, t_brk, t_cnt, t_ret, x_asgF, x_asgT, x_asgp, x_par, sets_nil, sets_cons, x_app, x_ext, x_exp, x_own2, x_newT, x_ret, x_ite, x_for, x_whl, x_frz, fz_o, fz_o2, fz_v, e_rF, e_rT, e_nF, sq_l, sq_t, sx_l, sx_t, sl_l, sq_L, sx_L, sl_L, sq_Ps, sx_Ps, sl_Ps, sq_G, sx_G, sl_G, sx_P, ai, ab, at0, at1, p_add, p_sub, p_lt, p_le, p_gt, p_ge, p_isB, p_isnB, p_isN, p_isnN, y_len, y_lenT, y_lenL, y_lenPs, y_lenG, y_int, y_intB, y_abs, y_min2, y_max2, y_gcd, y_list, y_listL, y_listPs, y_all, wipeE, frE, bib, Option.bind_some, Option.map_some, List.getD_cons_zero, List.getD_cons_succ, List.set_cons_zero, List.set_cons_succ, List.map_cons, List.map_nil, List.length_cons, List.length_nil, List.replicate, List.cons_append, List.nil_append, if_true, if_false, Bool.false_eq_true, Nat.reduceSub, Nat.reduceAdd, Nat.reduceLeDiff, eN, p_mod (show (0 : Int) < 3 by decide), p_mod (show (0 : Int) < 2 by decide)]
    rw [p_mul (by decide) (by omega)]
    simp only [turnE_nx, turnE_cnt, rd_0, rd_o, rd_of, rd_s, gO_0, gO_s, gO2_0, gO2_s, bp_nm, bp_tp, bps_nil, bps_cons, bp_eP, v_var, v_int, v_bool, v_str, v_none, v_glb, v_op, v_ch, v_ch3, v_neg, v_not, v_and, v_or, v_b1, v_ife, v_tup, v_lst, v_idx, v_bi, v_call, v_callB, v_rev, v_cut, v_p0, v_p1, vs_nil, vs_cons, f_0, f_1, i_s, i_r1, i_r2, i_e, i_z, v_lc, v_lc2, v_ssc, v_ssc2, v_sst, v_lset, x_nil, x_cons, t_nx, t_brk, t_cnt, t_ret, x_asgF, x_asgT, x_asgp, x_par, sets_nil, sets_cons, x_app, x_ext, x_exp, x_own2, x_newT, x_ret, x_ite, x_for, x_whl, x_frz, fz_o, fz_o2, fz_v, e_rF, e_rT, e_nF, sq_l, sq_t, sx_l, sx_t, sl_l, sq_L, sx_L, sl_L, sq_Ps, sx_Ps, sl_Ps, sq_G, sx_G, sl_G, sx_P, ai, ab, at0, at1, p_add, p_sub, p_lt, p_le, p_gt, p_ge, p_isB, p_isnB, p_isN, p_isnN, y_len, y_lenT, y_lenL, y_lenPs, y_lenG, y_int, y_intB, y_abs, y_min2, y_max2, y_gcd, y_list, y_listL, y_listPs, y_all, wipeE, frE, bib, Option.bind_some, Option.map_some, List.getD_cons_zero, List.getD_cons_succ, List.set_cons_zero, List.set_cons_succ, List.map_cons, List.map_nil, List.length_cons, List.length_nil, List.replicate, List.cons_append, List.nil_append, if_true, if_false, Bool.false_eq_true, Nat.reduceSub, Nat.reduceAdd, Nat.reduceLeDiff]
    rw [if_le (by decide)]
    simp only [turnE_nx, turnE_cnt, rd_0, rd_o, rd_of, rd_s, gO_0, gO_s, gO2_0, gO2_s, bp_nm, bp_tp, bps_nil, bps_cons, bp_eP, v_var, v_int, v_bool, v_str, v_none, v_glb, v_op, v_ch, v_ch3, v_neg, v_not, v_and, v_or, v_b1, v_ife, v_tup, v_lst, v_idx, v_bi, v_call, v_callB, v_rev, v_cut, v_p0, v_p1, vs_nil, vs_cons, f_0, f_1, i_s, i_r1, i_r2, i_e, i_z, v_lc, v_lc2, v_ssc, v_ssc2, v_sst, v_lset, x_nil, x_cons, t_nx, t_brk, t_cnt, t_ret, x_asgF, x_asgT, x_asgp, x_par, sets_nil, sets_cons, x_app, x_ext, x_exp, x_own2, x_newT, x_ret, x_ite, x_for, x_whl, x_frz, fz_o, fz_o2, fz_v, e_rF, e_rT, e_nF, sq_l, sq_t, sx_l, sx_t, sl_l, sq_L, sx_L, sl_L, sq_Ps, sx_Ps, sl_Ps, sq_G, sx_G, sl_G, sx_P, ai, ab, at0, at1, p_add, p_sub, p_lt, p_le, p_gt, p_ge, p_isB, p_isnB, p_isN, p_isnN, y_len, y_lenT, y_lenL, y_lenPs, y_lenG, y_int, y_intB, y_abs, y_min2, y_max2, y_gcd, y_list, y_listL, y_listPs, y_all, wipeE, frE, bib, Option.bind_some, Option.map_some, List.getD_cons_zero, List.getD_cons_succ, List.set_cons_zero, List.set_cons_succ, List.map_cons, List.map_nil, List.length_cons, List.length_nil, List.replicate, List.cons_append, List.nil_append, if_true, if_false, Bool.false_eq_true, Nat.reduceSub, Nat.reduceAdd, Nat.reduceLeDiff]
    rw [if_le (by decide)]
    simp only [turnE_nx, turnE_cnt, rd_0, rd_o, rd_of, rd_s, gO_0, gO_s, gO2_0, gO2_s, bp_nm, bp_tp, bps_nil, bps_cons, bp_eP, v_var, v_int, v_bool, v_str, v_none, v_glb, v_op, v_ch, v_ch3, v_neg, v_not, v_and, v_or, v_b1, v_ife, v_tup, v_lst, v_idx, v_bi, v_call, v_callB, v_rev, v_cut, v_p0, v_p1, vs_nil, vs_cons, f_0, f_1, i_s, i_r1, i_r2, i_e, i_z, v_lc, v_lc2, v_ssc, v_ssc2, v_sst, v_lset, x_nil, x_cons, t_nx, t_brk, t_cnt, t_ret, x_asgF, x_asgT, x_asgp, x_par, sets_nil, sets_cons, x_app, x_ext, x_exp, x_own2, x_newT, x_ret, x_ite, x_for, x_whl, x_frz, fz_o, fz_o2, fz_v, e_rF, e_rT, e_nF, sq_l, sq_t, sx_l, sx_t, sl_l, sq_L, sx_L, sl_L, sq_Ps, sx_Ps, sl_Ps, sq_G, sx_G, sl_G, sx_P, ai, ab, at0, at1, p_add, p_sub, p_lt, p_le, p_gt, p_ge, p_isB, p_isnB, p_isN, p_isnN, y_len, y_lenT, y_lenL, y_lenPs, y_lenG, y_int, y_intB, y_abs, y_min2, y_max2, y_gcd, y_list, y_listL, y_listPs, y_all, wipeE, frE, bib, Option.bind_some, Option.map_some, List.getD_cons_zero, List.getD_cons_succ, List.set_cons_zero, List.set_cons_succ, List.map_cons, List.map_nil, List.length_cons, List.length_nil, List.replicate, List.cons_append, List.nil_append, if_true, if_false, Bool.false_eq_true, Nat.reduceSub, Nat.reduceAdd, Nat.reduceLeDiff]
    rw [if_le (by decide)]
    rfl
theorem frac3 (t : Nat) : Nat.gcd (1 + 2 * ((t : Int) % 3)).natAbs (1 + ((t : Int) % 2)).natAbs = 1 := by
  have h3 : (t : Int) % 3 = 0 ∨ (t : Int) % 3 = 1 ∨ (t : Int) % 3 = 2 := by omega
  have h2 : (t : Int) % 2 = 0 ∨ (t : Int) % 2 = 1 := by omega
  rcases h3 with e | e | e <;> rcases h2 with f | f <;> rw [e, f] <;> decide
theorem r_line (N k n : Nat) (q : (Nat × Nat) × Nat) (h1 : q.1.1 < q.1.2) (h2 : q.1.2 < n) : cal (tabOf fds) N (k + 2) "is_line" [eN n, lineD q] = some (.bool true) := by
  obtain ⟨⟨a, b⟩, t⟩ := q
  simp only at h1 h2
  rw [c_is_line _ _ _ rfl, b_is_line]
  have f1 := r_is_fraction N k _ _ (show 0 < 1 + ((t : Int) % 2) by omega) (frac3 t)
  have f2 := r_is_fraction N k 0 1 (by decide) (by decide)
  simp only [lineD, eN, turnE_nx, turnE_cnt, rd_0, rd_o, rd_of, rd_s, gO_0, gO_s, gO2_0, gO2_s, bp_nm, bp_tp, bps_nil, bps_cons, bp_eP, v_var, v_int, v_bool, v_str, v_none, v_glb, v_op, v_ch, v_ch3, v_neg, v_not, v_and, v_or, v_b1, v_ife, v_tup, v_lst, v_idx, v_bi, v_call, v_callB, v_rev, v_cut, v_p0, v_p1, vs_nil, vs_cons, f_0, f_1, i_s, i_r1, i_r2, i_e, i_z, v_lc, v_lc2, v_ssc, v_ssc2, v_sst, v_lset, x_nil, x_cons, t_nx, t_brk, t_cnt, t_ret, x_asgF, x_asgT, x_asgp, x_par, sets_nil, sets_cons, x_app, x_ext, x_exp, x_own2, x_newT, x_ret, x_ite, x_for, x_whl, x_frz, fz_o, fz_o2, fz_v, e_rF, e_rT, e_nF, sq_l, sq_t, sx_l, sx_t, sl_l, sq_L, sx_L, sl_L, sq_Ps, sx_Ps, sl_Ps, sq_G, sx_G, sl_G, sx_P, ai, ab, at0, at1, p_add, p_sub, p_lt, p_le, p_gt, p_ge, p_isB, p_isnB, p_isN, p_isnN, y_len, y_lenT, y_lenL, y_lenPs, y_lenG, y_int, y_intB, y_abs, y_min2, y_max2, y_gcd, y_list, y_listL, y_listPs, y_all, wipeE, frE, bib, Option.bind_some, Option.map_some, List.getD_cons_zero, List.getD_cons_succ, List.set_cons_zero, List.set_cons_succ, List.map_cons, List.map_nil, List.length_cons, List.length_nil, List.replicate, List.cons_append, List.nil_append, if_true, if_false, Bool.false_eq_true, Nat.reduceSub, Nat.reduceAdd, Nat.reduceLeDiff, f1, f2]
  have g1 : decide ((0 : Int) ≤ (a : Int)) = true := decide_eq_true (by omega)
  have g2 : decide ((a : Int) < (b : Int)) = true := decide_eq_true (by omega)
  have g3 : decide ((b : Int) < (n : Int)) = true := decide_eq_true (by omega)
  have g4 : decide ((0 : Int) < 1 + 2 * ((t : Int) % 3)) = true := decide_eq_true (by omega)
  simp only [g1, g2, g3, g4, turnE_nx, turnE_cnt, rd_0, rd_o, rd_of, rd_s, gO_0, gO_s, gO2_0, gO2_s, bp_nm, bp_tp, bps_nil, bps_cons, bp_eP, v_var, v_int, v_bool, v_str, v_none, v_glb, v_op, v_ch, v_ch3, v_neg, v_not, v_and, v_or, v_b1, v_ife, v_tup, v_lst, v_idx, v_bi, v_call, v_callB, v_rev, v_cut, v_p0, v_p1, vs_nil, vs_cons, f_0, f_1, i_s, i_r1, i_r2, i_e, i_z, v_lc, v_lc2, v_ssc, v_ssc2, v_sst, v_lset, x_nil, x_cons, t_nx, t_brk, t_cnt, t_ret, x_asgF, x_asgT, x_asgp, x_par, sets_nil, sets_cons, x_app, x_ext, x_exp, x_own2, x_newT, x_ret, x_ite, x_for, x_whl, x_frz, fz_o, fz_o2, fz_v, e_rF, e_rT, e_nF, sq_l, sq_t, sx_l, sx_t, sl_l, sq_L, sx_L, sl_L, sq_Ps, sx_Ps, sl_Ps, sq_G, sx_G, sl_G, sx_P, ai, ab, at0, at1, p_add, p_sub, p_lt, p_le, p_gt, p_ge, p_isB, p_isnB, p_isN, p_isnN, y_len, y_lenT, y_lenL, y_lenPs, y_lenG, y_int, y_intB, y_abs, y_min2, y_max2, y_gcd, y_list, y_listL, y_listPs, y_all, wipeE, frE, bib, Option.bind_some, Option.map_some, List.getD_cons_zero, List.getD_cons_succ, List.set_cons_zero, List.set_cons_succ, List.map_cons, List.map_nil, List.length_cons, List.length_nil, List.replicate, List.cons_append, List.nil_append, if_true, if_false, Bool.false_eq_true, Nat.reduceSub, Nat.reduceAdd, Nat.reduceLeDiff, Bool.not_true, f1, f2]
  rfl
theorem r_check (N k n : Nat) (ps : List (Nat × Nat)) (h1 : 1 ≤ n) (h2 : n ≤ 8) (h3 : ps.length ≤ 14) (h4 : ∀ p ∈ ps, p.1 < p.2 ∧ p.2 < n) : cal (tabOf fds) N (k + 3) "check_grid" [gridD n ps] = some .none := by
  rw [c_check_grid _ _ _ rfl, b_check_grid]
  have g1 : decide ((1 : Int) ≤ (n : Int)) = true := decide_eq_true (by omega)
  have g2 : decide ((n : Int) ≤ 8) = true := decide_eq_true (by omega)
  have g3 : decide ((14 : Int) < (ps.length : Int)) = false := decide_eq_false (by omega)
  simp only [gridD, eN, turnE_nx, turnE_cnt, rd_0, rd_o, rd_of, rd_s, gO_0, gO_s, gO2_0, gO2_s, bp_nm, bp_tp, bps_nil, bps_cons, bp_eP, v_var, v_int, v_bool, v_str, v_none, v_glb, v_op, v_ch, v_ch3, v_neg, v_not, v_and, v_or, v_b1, v_ife, v_tup, v_lst, v_idx, v_bi, v_call, v_callB, v_rev, v_cut, v_p0, v_p1, vs_nil, vs_cons, f_0, f_1, i_s, i_r1, i_r2, i_e, i_z, v_lc, v_lc2, v_ssc, v_ssc2, v_sst, v_lset, x_nil, x_cons, t_nx, t_brk, t_cnt, t_ret, x_asgF, x_asgT, x_asgp, x_par, sets_nil, sets_cons, x_app, x_ext, x_exp, x_own2, x_newT, x_ret, x_ite, x_for, x_whl, x_frz, fz_o, fz_o2, fz_v, e_rF, e_rT, e_nF, sq_l, sq_t, sx_l, sx_t, sl_l, sq_L, sx_L, sl_L, sq_Ps, sx_Ps, sl_Ps, sq_G, sx_G, sl_G, sx_P, ai, ab, at0, at1, p_add, p_sub, p_lt, p_le, p_gt, p_ge, p_isB, p_isnB, p_isN, p_isnN, y_len, y_lenT, y_lenL, y_lenPs, y_lenG, y_int, y_intB, y_abs, y_min2, y_max2, y_gcd, y_list, y_listL, y_listPs, y_all, wipeE, frE, bib, Option.bind_some, Option.map_some, List.getD_cons_zero, List.getD_cons_succ, List.set_cons_zero, List.set_cons_succ, List.map_cons, List.map_nil, List.length_cons, List.length_nil, List.replicate, List.cons_append, List.nil_append, if_true, if_false, Bool.false_eq_true, Nat.reduceSub, Nat.reduceAdd, Nat.reduceLeDiff, g1, g2, Bool.not_true, List.length_map, List.length_zipIdx, g3, enum_map]
  have lp : forGo (fun x ρ => (bindPat (.tp (.cons (.nm 3) (.cons (.nm 4) .nil))) x ρ).bind fun ρ1 => exs (CG N (k + 2)) N (.cons (.ite (.not (.call "is_line" (.cons (.var 1) (.cons (.var 4) .nil)))) (.cons .nev .nil) .nil) .nil) ρ1) [3, 4] (ps.zipIdx.zipIdx.map fun p => .tuple [.int p.2, lineD p.1])
      [.val (.tuple [.int n, .list (ps.zipIdx.map lineD)]), .val (.int n), .val (.list (ps.zipIdx.map lineD)), .no, .no] = some (.nx, [.val (.tuple [.int n, .list (ps.zipIdx.map lineD)]), .val (.int n), .val (.list (ps.zipIdx.map lineD)), .no, .no]) := by
    refine forGo_c _ _ _ _ _ fun q hq => ?_
    obtain ⟨⟨p, t⟩, u⟩ := q
    have hp : p ∈ ps := List.fst_mem_of_mem_zipIdx (List.fst_mem_of_mem_zipIdx hq)
    have r := r_line N k n (p, t) (h4 p hp).1 (h4 p hp).2
    simp only [eN] at r
    simp only [turnE_nx, turnE_cnt, rd_0, rd_o, rd_of, rd_s, gO_0, gO_s, gO2_0, gO2_s, bp_nm, bp_tp, bps_nil, bps_cons, bp_eP, v_var, v_int, v_bool, v_str, v_none, v_glb, v_op, v_ch, v_ch3, v_neg, v_not, v_and, v_or, v_b1, v_ife, v_tup, v_lst, v_idx, v_bi, v_call, v_callB, v_rev, v_cut, v_p0, v_p1, vs_nil, vs_cons, f_0, f_1, i_s, i_r1, i_r2, i_e, i_z, v_lc, v_lc2, v_ssc, v_ssc2, v_sst, v_lset, x_nil, x_cons, t_nx, t_brk, t_cnt, t_ret, x_asgF, x_asgT, x_asgp, x_par, sets_nil, sets_cons, x_app, x_ext, x_exp, x_own2, x_newT, x_ret, x_ite, x_for, x_whl, x_frz, fz_o, fz_o2, fz_v, e_rF, e_rT, e_nF, sq_l, sq_t, sx_l, sx_t, sl_l, sq_L, sx_L, sl_L, sq_Ps, sx_Ps, sl_Ps, sq_G, sx_G, sl_G, sx_P, ai, ab, at0, at1, p_add, p_sub, p_lt, p_le, p_gt, p_ge, p_isB, p_isnB, p_isN, p_isnN, y_len, y_lenT, y_lenL, y_lenPs, y_lenG, y_int, y_intB, y_abs, y_min2, y_max2, y_gcd, y_list, y_listL, y_listPs, y_all, wipeE, frE, bib, Option.bind_some, Option.map_some, List.getD_cons_zero, List.getD_cons_succ, List.set_cons_zero, List.set_cons_succ, List.map_cons, List.map_nil, List.length_cons, List.length_nil, List.replicate, List.cons_append, List.nil_append, if_true, if_false, Bool.false_eq_true, Nat.reduceSub, Nat.reduceAdd, Nat.reduceLeDiff, r, Bool.not_true]
  simp only [turnE_nx, turnE_cnt, rd_0, rd_o, rd_of, rd_s, gO_0, gO_s, gO2_0, gO2_s, bp_nm, bp_tp, bps_nil, bps_cons, bp_eP, v_var, v_int, v_bool, v_str, v_none, v_glb, v_op, v_ch, v_ch3, v_neg, v_not, v_and, v_or, v_b1, v_ife, v_tup, v_lst, v_idx, v_bi, v_call, v_callB, v_rev, v_cut, v_p0, v_p1, vs_nil, vs_cons, f_0, f_1, i_s, i_r1, i_r2, i_e, i_z, v_lc, v_lc2, v_ssc, v_ssc2, v_sst, v_lset, x_nil, x_cons, t_nx, t_brk, t_cnt, t_ret, x_asgF, x_asgT, x_asgp, x_par, sets_nil, sets_cons, x_app, x_ext, x_exp, x_own2, x_newT, x_ret, x_ite, x_for, x_whl, x_frz, fz_o, fz_o2, fz_v, e_rF, e_rT, e_nF, sq_l, sq_t, sx_l, sx_t, sl_l, sq_L, sx_L, sl_L, sq_Ps, sx_Ps, sl_Ps, sq_G, sx_G, sl_G, sx_P, ai, ab, at0, at1, p_add, p_sub, p_lt, p_le, p_gt, p_ge, p_isB, p_isnB, p_isN, p_isnN, y_len, y_lenT, y_lenL, y_lenPs, y_lenG, y_int, y_intB, y_abs, y_min2, y_max2, y_gcd, y_list, y_listL, y_listPs, y_all, wipeE, frE, bib, Option.bind_some, Option.map_some, List.getD_cons_zero, List.getD_cons_succ, List.set_cons_zero, List.set_cons_succ, List.map_cons, List.map_nil, List.length_cons, List.length_nil, List.replicate, List.cons_append, List.nil_append, if_true, if_false, Bool.false_eq_true, Nat.reduceSub, Nat.reduceAdd, Nat.reduceLeDiff] at lp
  simp only [lp, turnE_nx, turnE_cnt, rd_0, rd_o, rd_of, rd_s, gO_0, gO_s, gO2_0, gO2_s, bp_nm, bp_tp, bps_nil, bps_cons, bp_eP, v_var, v_int, v_bool, v_str, v_none, v_glb, v_op, v_ch, v_ch3, v_neg, v_not, v_and, v_or, v_b1, v_ife, v_tup, v_lst, v_idx, v_bi, v_call, v_callB, v_rev, v_cut, v_p0, v_p1, vs_nil, vs_cons, f_0, f_1, i_s, i_r1, i_r2, i_e, i_z, v_lc, v_lc2, v_ssc, v_ssc2, v_sst, v_lset, x_nil, x_cons, t_nx, t_brk, t_cnt, t_ret, x_asgF, x_asgT, x_asgp, x_par, sets_nil, sets_cons, x_app, x_ext, x_exp, x_own2, x_newT, x_ret, x_ite, x_for, x_whl, x_frz, fz_o, fz_o2, fz_v, e_rF, e_rT, e_nF, sq_l, sq_t, sx_l, sx_t, sl_l, sq_L, sx_L, sl_L, sq_Ps, sx_Ps, sl_Ps, sq_G, sx_G, sl_G, sx_P, ai, ab, at0, at1, p_add, p_sub, p_lt, p_le, p_gt, p_ge, p_isB, p_isnB, p_isN, p_isnN, y_len, y_lenT, y_lenL, y_lenPs, y_lenG, y_int, y_intB, y_abs, y_min2, y_max2, y_gcd, y_list, y_listL, y_listPs, y_all, wipeE, frE, bib, Option.bind_some, Option.map_some, List.getD_cons_zero, List.getD_cons_succ, List.set_cons_zero, List.set_cons_succ, List.map_cons, List.map_nil, List.length_cons, List.length_nil, List.replicate, List.cons_append, List.nil_append, if_true, if_false, Bool.false_eq_true, Nat.reduceSub, Nat.reduceAdd, Nat.reduceLeDiff]
def linesD (ps : List (Nat × Nat)) : D := ePs ps
theorem r_lines (N k n : Nat) (ps : List (Nat × Nat)) (hl : ps.length < 1000) : cal (tabOf fds) N (k + 1) "lines_of" [gridD n ps] = some (ePs ps) := by
  rw [c_lines_of _ _ _ rfl, b_lines_of]
  simp only [gridD, turnE_nx, turnE_cnt, rd_0, rd_o, rd_of, rd_s, gO_0, gO_s, gO2_0, gO2_s, bp_nm, bp_tp, bps_nil, bps_cons, bp_eP, v_var, v_int, v_bool, v_str, v_none, v_glb, v_op, v_ch, v_ch3, v_neg, v_not, v_and, v_or, v_b1, v_ife, v_tup, v_lst, v_idx, v_bi, v_call, v_callB, v_rev, v_cut, v_p0, v_p1, vs_nil, vs_cons, f_0, f_1, i_s, i_r1, i_r2, i_e, i_z, v_lc, v_lc2, v_ssc, v_ssc2, v_sst, v_lset, x_nil, x_cons, t_nx, t_brk, t_cnt, t_ret, x_asgF, x_asgT, x_asgp, x_par, sets_nil, sets_cons, x_app, x_ext, x_exp, x_own2, x_newT, x_ret, x_ite, x_for, x_whl, x_frz, fz_o, fz_o2, fz_v, e_rF, e_rT, e_nF, sq_l, sq_t, sx_l, sx_t, sl_l, sq_L, sx_L, sl_L, sq_Ps, sx_Ps, sl_Ps, sq_G, sx_G, sl_G, sx_P, ai, ab, at0, at1, p_add, p_sub, p_lt, p_le, p_gt, p_ge, p_isB, p_isnB, p_isN, p_isnN, y_len, y_lenT, y_lenL, y_lenPs, y_lenG, y_int, y_intB, y_abs, y_min2, y_max2, y_gcd, y_list, y_listL, y_listPs, y_all, wipeE, frE, bib, Option.bind_some, Option.map_some, List.getD_cons_zero, List.getD_cons_succ, List.set_cons_zero, List.set_cons_succ, List.map_cons, List.map_nil, List.length_cons, List.length_nil, List.replicate, List.cons_append, List.nil_append, if_true, if_false, Bool.false_eq_true, Nat.reduceSub, Nat.reduceAdd, Nat.reduceLeDiff]
  rw [lcGo_map _ lineD eP (fun q => q.1) _ fun q hq => ?_]
  · simp only [turnE_nx, turnE_cnt, rd_0, rd_o, rd_of, rd_s, gO_0, gO_s, gO2_0, gO2_s, bp_nm, bp_tp, bps_nil, bps_cons, bp_eP, v_var, v_int, v_bool, v_str, v_none, v_glb, v_op, v_ch, v_ch3, v_neg, v_not, v_and, v_or, v_b1, v_ife, v_tup, v_lst, v_idx, v_bi, v_call, v_callB, v_rev, v_cut, v_p0, v_p1, vs_nil, vs_cons, f_0, f_1, i_s, i_r1, i_r2, i_e, i_z, v_lc, v_lc2, v_ssc, v_ssc2, v_sst, v_lset, x_nil, x_cons, t_nx, t_brk, t_cnt, t_ret, x_asgF, x_asgT, x_asgp, x_par, sets_nil, sets_cons, x_app, x_ext, x_exp, x_own2, x_newT, x_ret, x_ite, x_for, x_whl, x_frz, fz_o, fz_o2, fz_v, e_rF, e_rT, e_nF, sq_l, sq_t, sx_l, sx_t, sl_l, sq_L, sx_L, sl_L, sq_Ps, sx_Ps, sl_Ps, sq_G, sx_G, sl_G, sx_P, ai, ab, at0, at1, p_add, p_sub, p_lt, p_le, p_gt, p_ge, p_isB, p_isnB, p_isN, p_isnN, y_len, y_lenT, y_lenL, y_lenPs, y_lenG, y_int, y_intB, y_abs, y_min2, y_max2, y_gcd, y_list, y_listL, y_listPs, y_all, wipeE, frE, bib, Option.bind_some, Option.map_some, List.getD_cons_zero, List.getD_cons_succ, List.set_cons_zero, List.set_cons_succ, List.map_cons, List.map_nil, List.length_cons, List.length_nil, List.replicate, List.cons_append, List.nil_append, if_true, if_false, Bool.false_eq_true, Nat.reduceSub, Nat.reduceAdd, Nat.reduceLeDiff, List.length_map, List.length_zipIdx]
    rw [if_lt (by omega)]
    rw [zip_fst]
    rfl
  · obtain ⟨⟨a, b⟩, t⟩ := q
    simp only [elOf, turnE_nx, turnE_cnt, rd_0, rd_o, rd_of, rd_s, gO_0, gO_s, gO2_0, gO2_s, bp_nm, bp_tp, bps_nil, bps_cons, bp_eP, v_var, v_int, v_bool, v_str, v_none, v_glb, v_op, v_ch, v_ch3, v_neg, v_not, v_and, v_or, v_b1, v_ife, v_tup, v_lst, v_idx, v_bi, v_call, v_callB, v_rev, v_cut, v_p0, v_p1, vs_nil, vs_cons, f_0, f_1, i_s, i_r1, i_r2, i_e, i_z, v_lc, v_lc2, v_ssc, v_ssc2, v_sst, v_lset, x_nil, x_cons, t_nx, t_brk, t_cnt, t_ret, x_asgF, x_asgT, x_asgp, x_par, sets_nil, sets_cons, x_app, x_ext, x_exp, x_own2, x_newT, x_ret, x_ite, x_for, x_whl, x_frz, fz_o, fz_o2, fz_v, e_rF, e_rT, e_nF, sq_l, sq_t, sx_l, sx_t, sl_l, sq_L, sx_L, sl_L, sq_Ps, sx_Ps, sl_Ps, sq_G, sx_G, sl_G, sx_P, ai, ab, at0, at1, p_add, p_sub, p_lt, p_le, p_gt, p_ge, p_isB, p_isnB, p_isN, p_isnN, y_len, y_lenT, y_lenL, y_lenPs, y_lenG, y_int, y_intB, y_abs, y_min2, y_max2, y_gcd, y_list, y_listL, y_listPs, y_all, wipeE, frE, bib, Option.bind_some, Option.map_some, List.getD_cons_zero, List.getD_cons_succ, List.set_cons_zero, List.set_cons_succ, List.map_cons, List.map_nil, List.length_cons, List.length_nil, List.replicate, List.cons_append, List.nil_append, if_true, if_false, Bool.false_eq_true, Nat.reduceSub, Nat.reduceAdd, Nat.reduceLeDiff, lineD, eN]
    rw [if_le (by decide)]
    rfl
theorem r_ends (N k : Nat) (ps : List (Nat × Nat)) (v : Nat) (hl : ps.length < 1000) : cal (tabOf fds) N (k + 1) "ends_of" [ePs ps, .int v] = some (eL ((ps.filter fun p => p.1 = v).map (·.2) ++ (ps.filter fun p => p.2 = v).map (·.1))) := by
  rw [c_ends_of _ _ _ rfl, b_ends_of]
  simp only [turnE_nx, turnE_cnt, rd_0, rd_o, rd_of, rd_s, gO_0, gO_s, gO2_0, gO2_s, bp_nm, bp_tp, bps_nil, bps_cons, bp_eP, v_var, v_int, v_bool, v_str, v_none, v_glb, v_op, v_ch, v_ch3, v_neg, v_not, v_and, v_or, v_b1, v_ife, v_tup, v_lst, v_idx, v_bi, v_call, v_callB, v_rev, v_cut, v_p0, v_p1, vs_nil, vs_cons, f_0, f_1, i_s, i_r1, i_r2, i_e, i_z, v_lc, v_lc2, v_ssc, v_ssc2, v_sst, v_lset, x_nil, x_cons, t_nx, t_brk, t_cnt, t_ret, x_asgF, x_asgT, x_asgp, x_par, sets_nil, sets_cons, x_app, x_ext, x_exp, x_own2, x_newT, x_ret, x_ite, x_for, x_whl, x_frz, fz_o, fz_o2, fz_v, e_rF, e_rT, e_nF, sq_l, sq_t, sx_l, sx_t, sl_l, sq_L, sx_L, sl_L, sq_Ps, sx_Ps, sl_Ps, sq_G, sx_G, sl_G, sx_P, ai, ab, at0, at1, p_add, p_sub, p_lt, p_le, p_gt, p_ge, p_isB, p_isnB, p_isN, p_isnN, y_len, y_lenT, y_lenL, y_lenPs, y_lenG, y_int, y_intB, y_abs, y_min2, y_max2, y_gcd, y_list, y_listL, y_listPs, y_all, wipeE, frE, bib, Option.bind_some, Option.map_some, List.getD_cons_zero, List.getD_cons_succ, List.set_cons_zero, List.set_cons_succ, List.map_cons, List.map_nil, List.length_cons, List.length_nil, List.replicate, List.cons_append, List.nil_append, if_true, if_false, Bool.false_eq_true, Nat.reduceSub, Nat.reduceAdd, Nat.reduceLeDiff]
  rw [lcGo_fm _ eP eN (fun p => if p.1 = v then some p.2 else none) _ fun q hq => ?_, lcGo_fm _ eP eN (fun p => if p.2 = v then some p.1 else none) _ fun q hq => ?_]
  · have l1 := fm_if (fun p : Nat × Nat => p.1 = v) (fun p => p.2) ps
    have l2 := fm_if (fun p : Nat × Nat => p.2 = v) (fun p => p.1) ps
    rw [l1, l2]
    have k1 := List.length_filter_le (fun p => decide (p.1 = v)) ps
    have k2 := List.length_filter_le (fun p => decide (p.2 = v)) ps
    simp only [turnE_nx, turnE_cnt, rd_0, rd_o, rd_of, rd_s, gO_0, gO_s, gO2_0, gO2_s, bp_nm, bp_tp, bps_nil, bps_cons, bp_eP, v_var, v_int, v_bool, v_str, v_none, v_glb, v_op, v_ch, v_ch3, v_neg, v_not, v_and, v_or, v_b1, v_ife, v_tup, v_lst, v_idx, v_bi, v_call, v_callB, v_rev, v_cut, v_p0, v_p1, vs_nil, vs_cons, f_0, f_1, i_s, i_r1, i_r2, i_e, i_z, v_lc, v_lc2, v_ssc, v_ssc2, v_sst, v_lset, x_nil, x_cons, t_nx, t_brk, t_cnt, t_ret, x_asgF, x_asgT, x_asgp, x_par, sets_nil, sets_cons, x_app, x_ext, x_exp, x_own2, x_newT, x_ret, x_ite, x_for, x_whl, x_frz, fz_o, fz_o2, fz_v, e_rF, e_rT, e_nF, sq_l, sq_t, sx_l, sx_t, sl_l, sq_L, sx_L, sl_L, sq_Ps, sx_Ps, sl_Ps, sq_G, sx_G, sl_G, sx_P, ai, ab, at0, at1, p_add, p_sub, p_lt, p_le, p_gt, p_ge, p_isB, p_isnB, p_isN, p_isnN, y_len, y_lenT, y_lenL, y_lenPs, y_lenG, y_int, y_intB, y_abs, y_min2, y_max2, y_gcd, y_list, y_listL, y_listPs, y_all, wipeE, frE, bib, Option.bind_some, Option.map_some, List.getD_cons_zero, List.getD_cons_succ, List.set_cons_zero, List.set_cons_succ, List.map_cons, List.map_nil, List.length_cons, List.length_nil, List.replicate, List.cons_append, List.nil_append, if_true, if_false, Bool.false_eq_true, Nat.reduceSub, Nat.reduceAdd, Nat.reduceLeDiff, List.length_map]
    rw [if_lt (by omega), if_lt (by omega)]
    simp only [turnE_nx, turnE_cnt, rd_0, rd_o, rd_of, rd_s, gO_0, gO_s, gO2_0, gO2_s, bp_nm, bp_tp, bps_nil, bps_cons, bp_eP, v_var, v_int, v_bool, v_str, v_none, v_glb, v_op, v_ch, v_ch3, v_neg, v_not, v_and, v_or, v_b1, v_ife, v_tup, v_lst, v_idx, v_bi, v_call, v_callB, v_rev, v_cut, v_p0, v_p1, vs_nil, vs_cons, f_0, f_1, i_s, i_r1, i_r2, i_e, i_z, v_lc, v_lc2, v_ssc, v_ssc2, v_sst, v_lset, x_nil, x_cons, t_nx, t_brk, t_cnt, t_ret, x_asgF, x_asgT, x_asgp, x_par, sets_nil, sets_cons, x_app, x_ext, x_exp, x_own2, x_newT, x_ret, x_ite, x_for, x_whl, x_frz, fz_o, fz_o2, fz_v, e_rF, e_rT, e_nF, sq_l, sq_t, sx_l, sx_t, sl_l, sq_L, sx_L, sl_L, sq_Ps, sx_Ps, sl_Ps, sq_G, sx_G, sl_G, sx_P, ai, ab, at0, at1, p_add, p_sub, p_lt, p_le, p_gt, p_ge, p_isB, p_isnB, p_isN, p_isnN, y_len, y_lenT, y_lenL, y_lenPs, y_lenG, y_int, y_intB, y_abs, y_min2, y_max2, y_gcd, y_list, y_listL, y_listPs, y_all, wipeE, frE, bib, Option.bind_some, Option.map_some, List.getD_cons_zero, List.getD_cons_succ, List.set_cons_zero, List.set_cons_succ, List.map_cons, List.map_nil, List.length_cons, List.length_nil, List.replicate, List.cons_append, List.nil_append, if_true, if_false, Bool.false_eq_true, Nat.reduceSub, Nat.reduceAdd, Nat.reduceLeDiff, p_cat, List.length_map]
    rw [if_le (by omega)]
    simp only [turnE_nx, turnE_cnt, rd_0, rd_o, rd_of, rd_s, gO_0, gO_s, gO2_0, gO2_s, bp_nm, bp_tp, bps_nil, bps_cons, bp_eP, v_var, v_int, v_bool, v_str, v_none, v_glb, v_op, v_ch, v_ch3, v_neg, v_not, v_and, v_or, v_b1, v_ife, v_tup, v_lst, v_idx, v_bi, v_call, v_callB, v_rev, v_cut, v_p0, v_p1, vs_nil, vs_cons, f_0, f_1, i_s, i_r1, i_r2, i_e, i_z, v_lc, v_lc2, v_ssc, v_ssc2, v_sst, v_lset, x_nil, x_cons, t_nx, t_brk, t_cnt, t_ret, x_asgF, x_asgT, x_asgp, x_par, sets_nil, sets_cons, x_app, x_ext, x_exp, x_own2, x_newT, x_ret, x_ite, x_for, x_whl, x_frz, fz_o, fz_o2, fz_v, e_rF, e_rT, e_nF, sq_l, sq_t, sx_l, sx_t, sl_l, sq_L, sx_L, sl_L, sq_Ps, sx_Ps, sl_Ps, sq_G, sx_G, sl_G, sx_P, ai, ab, at0, at1, p_add, p_sub, p_lt, p_le, p_gt, p_ge, p_isB, p_isnB, p_isN, p_isnN, y_len, y_lenT, y_lenL, y_lenPs, y_lenG, y_int, y_intB, y_abs, y_min2, y_max2, y_gcd, y_list, y_listL, y_listPs, y_all, wipeE, frE, bib, Option.bind_some, Option.map_some, List.getD_cons_zero, List.getD_cons_succ, List.set_cons_zero, List.set_cons_succ, List.map_cons, List.map_nil, List.length_cons, List.length_nil, List.replicate, List.cons_append, List.nil_append, if_true, if_false, Bool.false_eq_true, Nat.reduceSub, Nat.reduceAdd, Nat.reduceLeDiff]
    rw [← List.map_append]
    rfl
  · obtain ⟨a, b⟩ := q
    simp only [elOf, turnE_nx, turnE_cnt, rd_0, rd_o, rd_of, rd_s, gO_0, gO_s, gO2_0, gO2_s, bp_nm, bp_tp, bps_nil, bps_cons, bp_eP, v_var, v_int, v_bool, v_str, v_none, v_glb, v_op, v_ch, v_ch3, v_neg, v_not, v_and, v_or, v_b1, v_ife, v_tup, v_lst, v_idx, v_bi, v_call, v_callB, v_rev, v_cut, v_p0, v_p1, vs_nil, vs_cons, f_0, f_1, i_s, i_r1, i_r2, i_e, i_z, v_lc, v_lc2, v_ssc, v_ssc2, v_sst, v_lset, x_nil, x_cons, t_nx, t_brk, t_cnt, t_ret, x_asgF, x_asgT, x_asgp, x_par, sets_nil, sets_cons, x_app, x_ext, x_exp, x_own2, x_newT, x_ret, x_ite, x_for, x_whl, x_frz, fz_o, fz_o2, fz_v, e_rF, e_rT, e_nF, sq_l, sq_t, sx_l, sx_t, sl_l, sq_L, sx_L, sl_L, sq_Ps, sx_Ps, sl_Ps, sq_G, sx_G, sl_G, sx_P, ai, ab, at0, at1, p_add, p_sub, p_lt, p_le, p_gt, p_ge, p_isB, p_isnB, p_isN, p_isnN, y_len, y_lenT, y_lenL, y_lenPs, y_lenG, y_int, y_intB, y_abs, y_min2, y_max2, y_gcd, y_list, y_listL, y_listPs, y_all, wipeE, frE, bib, Option.bind_some, Option.map_some, List.getD_cons_zero, List.getD_cons_succ, List.set_cons_zero, List.set_cons_succ, List.map_cons, List.map_nil, List.length_cons, List.length_nil, List.replicate, List.cons_append, List.nil_append, if_true, if_false, Bool.false_eq_true, Nat.reduceSub, Nat.reduceAdd, Nat.reduceLeDiff, o_eqI]
    by_cases h : b = v
    · subst h; simp [eN]
    · rw [decide_eq_false (by omega), if_neg h]; rfl
  · obtain ⟨a, b⟩ := q
    simp only [elOf, turnE_nx, turnE_cnt, rd_0, rd_o, rd_of, rd_s, gO_0, gO_s, gO2_0, gO2_s, bp_nm, bp_tp, bps_nil, bps_cons, bp_eP, v_var, v_int, v_bool, v_str, v_none, v_glb, v_op, v_ch, v_ch3, v_neg, v_not, v_and, v_or, v_b1, v_ife, v_tup, v_lst, v_idx, v_bi, v_call, v_callB, v_rev, v_cut, v_p0, v_p1, vs_nil, vs_cons, f_0, f_1, i_s, i_r1, i_r2, i_e, i_z, v_lc, v_lc2, v_ssc, v_ssc2, v_sst, v_lset, x_nil, x_cons, t_nx, t_brk, t_cnt, t_ret, x_asgF, x_asgT, x_asgp, x_par, sets_nil, sets_cons, x_app, x_ext, x_exp, x_own2, x_newT, x_ret, x_ite, x_for, x_whl, x_frz, fz_o, fz_o2, fz_v, e_rF, e_rT, e_nF, sq_l, sq_t, sx_l, sx_t, sl_l, sq_L, sx_L, sl_L, sq_Ps, sx_Ps, sl_Ps, sq_G, sx_G, sl_G, sx_P, ai, ab, at0, at1, p_add, p_sub, p_lt, p_le, p_gt, p_ge, p_isB, p_isnB, p_isN, p_isnN, y_len, y_lenT, y_lenL, y_lenPs, y_lenG, y_int, y_intB, y_abs, y_min2, y_max2, y_gcd, y_list, y_listL, y_listPs, y_all, wipeE, frE, bib, Option.bind_some, Option.map_some, List.getD_cons_zero, List.getD_cons_succ, List.set_cons_zero, List.set_cons_succ, List.map_cons, List.map_nil, List.length_cons, List.length_nil, List.replicate, List.cons_append, List.nil_append, if_true, if_false, Bool.false_eq_true, Nat.reduceSub, Nat.reduceAdd, Nat.reduceLeDiff, o_eqI]
    by_cases h : a = v
    · subst h; simp [eN]
    · rw [decide_eq_false (by omega), if_neg h]; rfl
end K19

set_option Elab.async false
set_option linter.all false
set_option maxRecDepth 100000
set_option maxHeartbeats 4000000
namespace K19
open PySem Pv
/-! ### pairs_of -/
def ix (gs : List (List Nat)) (a : Nat) : List Nat := (gs.zipIdx.filter fun q => decide (a ∈ q.1)).map (·.2)
def lkey (gs : List (List Nat)) (p : Nat × Nat) : Option (Nat × Nat) := match ix gs p.1, ix gs p.2 with
  | x :: xs, y :: ys => if x :: xs = y :: ys then none else some (min x y, max x y)
  | _, _ => none
def putN (ks : List (Nat × Nat)) (k : Nat × Nat) : List (Nat × Nat) := if k ∈ ks then ks else ks ++ [k]
def keysOfLines (gs : List (List Nat)) (ps : List (Nat × Nat)) : List (Nat × Nat) := ps.foldl (fun ks p => match lkey gs p with | some k => putN ks k | none => ks) []
def leP (p q : Nat × Nat) : Bool := if p.1 = q.1 then decide (p.2 ≤ q.2) else decide (p.1 < q.1)
def insP (x : Nat × Nat) : List (Nat × Nat) → List (Nat × Nat)
  | [] => [x]
  | y :: r => if leP x y then x :: y :: r else y :: insP x r
def sortP : List (Nat × Nat) → List (Nat × Nat)
  | [] => []
  | x :: r => insP x (sortP r)
def pof (gs : List (List Nat)) (ps : List (Nat × Nat)) : List (Nat × Nat) := sortP (keysOfLines gs ps)
def toRow (p : Nat × Nat) : List Int := [(p.1 : Int), (p.2 : Int)]
theorem le_row (p q : Nat × Nat) : lexLe (toRow p) (toRow q) = leP p q := by
  obtain ⟨a, b⟩ := p
  obtain ⟨c, d⟩ := q
  unfold toRow leP lexLe
  by_cases h : a = c
  · subst h
    rw [if_pos rfl, if_pos rfl]
    unfold lexLe
    by_cases h2 : b = d
    · subst h2; simp [lexLe]
    · rw [if_neg (by omega)]
      exact decide_eq_decide.mpr (by omega)
  · rw [if_neg (by omega), if_neg h]
    exact decide_eq_decide.mpr (by omega)
theorem ins_row (x : Nat × Nat) : ∀ l : List (Nat × Nat), insL (toRow x) (l.map toRow) = (insP x l).map toRow
  | [] => rfl
  | y :: r => by
    rw [List.map_cons]
    unfold insL insP
    rw [le_row]
    split
    · rfl
    · rw [ins_row x r]; rfl
theorem sort_row : ∀ l : List (Nat × Nat), sortL (l.map toRow) = (sortP l).map toRow
  | [] => rfl
  | x :: r => by
    rw [List.map_cons]
    unfold sortL sortP
    rw [sort_row r, ins_row]
def kvD (p : Nat × Nat) : List L2.Key × D := ([Sum.inl (p.1 : Int), Sum.inl (p.2 : Int)], .bool true)
theorem keys_row : ∀ l : List (Nat × Nat), keysInts ((l.map kvD).map (·.1)) = some (l.map toRow)
  | [] => rfl
  | p :: l => by
    rw [List.map_cons, List.map_cons, List.map_cons]
    show ((some (toRow p)).bind fun x => (keysInts ((l.map kvD).map (·.1))).map (x :: ·)) = _
    rw [keys_row l]; rfl
theorem put_row (l : List (Nat × Nat)) (k : Nat × Nat) : putD (l.map kvD) [Sum.inl (k.1 : Int), Sum.inl (k.2 : Int)] (.bool true) = (putN l k).map kvD := by
  have inj : ∀ p : Nat × Nat, (kvD p).1 = [Sum.inl (k.1 : Int), Sum.inl (k.2 : Int)] ↔ p = k := fun p => by
    obtain ⟨a, b⟩ := p
    obtain ⟨c, d⟩ := k
    unfold kvD
    simp
    omega
  have h1 : ((l.map kvD).any fun kv => decide (kv.1 = [Sum.inl (k.1 : Int), Sum.inl (k.2 : Int)])) = decide (k ∈ l) := by
    rw [Bool.eq_iff_iff, List.any_eq_true, decide_eq_true_eq]
    constructor
    · rintro ⟨kv, hm, hk⟩
      obtain ⟨p, hp, rfl⟩ := List.mem_map.mp hm
      exact (inj p).mp (of_decide_eq_true hk) ▸ hp
    · intro h
      exact ⟨_, List.mem_map_of_mem h, decide_eq_true ((inj k).mpr rfl)⟩
  unfold putD putN
  rw [h1]
  by_cases h : k ∈ l
  · rw [if_pos (decide_eq_true h), if_pos h, List.map_map]
    refine List.map_congr_left fun p _ => ?_
    show (if (kvD p).1 = _ then ((kvD p).1, PyData.bool true) else kvD p) = kvD p
    split <;> rfl
  · rw [if_neg (by simpa using h), if_neg h, List.map_append]; rfl
theorem o_inL' (a : Nat) (l : List Nat) : op2 .isIn (.int (a : Int)) (eL l) = some (.bool (decide (a ∈ l))) := o_inL a l
theorem o_ninL' (a : Nat) (l : List Nat) : op2 .notIn (.int (a : Int)) (eL l) = some (.bool (!decide (a ∈ l))) := o_ninL a l
theorem ix_ev3 (N k : Nat) (gs : List (List Nat)) (a b : Nat) (e0 e1 e2 e5 e8 : Ent) : lcGo (elOf (CG N k) [e0, e1, e2, .val (.int a), .val (.int b), e5, .no, .no, e8] (.var 6) (.tp (.cons (.nm 6) (.cons (.nm 7) .nil))) (.cons (.op .isIn (.var 3) (.var 7)) .nil) [6, 7]) (enumD 0 (gs.map eL)) = some ((ix gs a).map eN) := by
  rw [enum_map, lcGo_fm _ _ eN (fun q => if a ∈ q.1 then some q.2 else none) _ fun q hq => ?_]
  · rw [fm_if]; rfl
  · simp only [elOf, turnE_nx, turnE_cnt, rd_0, rd_o, rd_of, rd_s, gO_0, gO_s, gO2_0, gO2_s, bp_nm, bp_tp, bps_nil, bps_cons, bp_eP, v_var, v_int, v_bool, v_str, v_none, v_glb, v_op, v_ch, v_ch3, v_neg, v_not, v_and, v_or, v_b1, v_ife, v_tup, v_lst, v_idx, v_bi, v_call, v_callB, v_rev, v_cut, v_p0, v_p1, vs_nil, vs_cons, f_0, f_1, i_s, i_r1, i_r2, i_e, i_z, v_lc, v_lc2, v_ssc, v_ssc2, v_sst, v_lset, x_nil, x_cons, t_nx, t_brk, t_cnt, t_ret, x_asgF, x_asgT, x_asgp, x_par, sets_nil, sets_cons, x_app, x_ext, x_exp, x_own2, x_newT, x_ret, x_ite, x_for, x_whl, x_frz, fz_o, fz_o2, fz_v, e_rF, e_rT, e_nF, sq_l, sq_t, sx_l, sx_t, sl_l, sq_L, sx_L, sl_L, sq_Ps, sx_Ps, sl_Ps, sq_G, sx_G, sl_G, sx_P, ai, ab, at0, at1, p_add, p_sub, p_lt, p_le, p_gt, p_ge, p_isB, p_isnB, p_isN, p_isnN, y_len, y_lenT, y_lenL, y_lenPs, y_lenG, y_int, y_intB, y_abs, y_min2, y_max2, y_gcd, y_list, y_listL, y_listPs, y_all, wipeE, frE, bib, Option.bind_some, Option.map_some, List.getD_cons_zero, List.getD_cons_succ, List.set_cons_zero, List.set_cons_succ, List.map_cons, List.map_nil, List.length_cons, List.length_nil, List.replicate, List.cons_append, List.nil_append, if_true, if_false, Bool.false_eq_true, Nat.reduceSub, Nat.reduceAdd, Nat.reduceLeDiff, eN, o_inL']
    by_cases h : a ∈ q.1
    · rw [decide_eq_true h, if_pos h]; rfl
    · rw [decide_eq_false h, if_neg h]; rfl
theorem ix_ev4 (N k : Nat) (gs : List (List Nat)) (a b : Nat) (e0 e1 e2 e5 e8 : Ent) : lcGo (elOf (CG N k) [e0, e1, e2, .val (.int a), .val (.int b), e5, .no, .no, e8] (.var 6) (.tp (.cons (.nm 6) (.cons (.nm 7) .nil))) (.cons (.op .isIn (.var 4) (.var 7)) .nil) [6, 7]) (enumD 0 (gs.map eL)) = some ((ix gs b).map eN) := by
  rw [enum_map, lcGo_fm _ _ eN (fun q => if b ∈ q.1 then some q.2 else none) _ fun q hq => ?_]
  · rw [fm_if]; rfl
  · simp only [elOf, turnE_nx, turnE_cnt, rd_0, rd_o, rd_of, rd_s, gO_0, gO_s, gO2_0, gO2_s, bp_nm, bp_tp, bps_nil, bps_cons, bp_eP, v_var, v_int, v_bool, v_str, v_none, v_glb, v_op, v_ch, v_ch3, v_neg, v_not, v_and, v_or, v_b1, v_ife, v_tup, v_lst, v_idx, v_bi, v_call, v_callB, v_rev, v_cut, v_p0, v_p1, vs_nil, vs_cons, f_0, f_1, i_s, i_r1, i_r2, i_e, i_z, v_lc, v_lc2, v_ssc, v_ssc2, v_sst, v_lset, x_nil, x_cons, t_nx, t_brk, t_cnt, t_ret, x_asgF, x_asgT, x_asgp, x_par, sets_nil, sets_cons, x_app, x_ext, x_exp, x_own2, x_newT, x_ret, x_ite, x_for, x_whl, x_frz, fz_o, fz_o2, fz_v, e_rF, e_rT, e_nF, sq_l, sq_t, sx_l, sx_t, sl_l, sq_L, sx_L, sl_L, sq_Ps, sx_Ps, sl_Ps, sq_G, sx_G, sl_G, sx_P, ai, ab, at0, at1, p_add, p_sub, p_lt, p_le, p_gt, p_ge, p_isB, p_isnB, p_isN, p_isnN, y_len, y_lenT, y_lenL, y_lenPs, y_lenG, y_int, y_intB, y_abs, y_min2, y_max2, y_gcd, y_list, y_listL, y_listPs, y_all, wipeE, frE, bib, Option.bind_some, Option.map_some, List.getD_cons_zero, List.getD_cons_succ, List.set_cons_zero, List.set_cons_succ, List.map_cons, List.map_nil, List.length_cons, List.length_nil, List.replicate, List.cons_append, List.nil_append, if_true, if_false, Bool.false_eq_true, Nat.reduceSub, Nat.reduceAdd, Nat.reduceLeDiff, eN, o_inL']
    by_cases h : b ∈ q.1
    · rw [decide_eq_true h, if_pos h]; rfl
    · rw [decide_eq_false h, if_neg h]; rfl
theorem ix_len (gs : List (List Nat)) (a : Nat) : (ix gs a).length ≤ gs.length := by
  unfold ix
  rw [List.length_map]
  exact Nat.le_trans (List.length_filter_le _ _) (by rw [List.length_zipIdx]; exact Nat.le_refl _)
theorem o_neL' (l m : List Nat) : op2 .ne (.list (l.map eN)) (.list (m.map eN)) = some (.bool (!decide (l = m))) := o_neL l m
theorem at_cons (x : Nat) (l : List Nat) : L2.atI ((x :: l).map eN) 0 = some (.int x) := at_map eN (x :: l) 0 rfl
theorem x_put {G : Cfg} {N i : Nat} {k v : Xp} {ρ : En} : ex G N (.put i k v) ρ = (ev G false v ρ).bind fun dv => (ev G false k ρ).bind fun dk => (putE (ρ.getD i .no) dk dv).map fun e => (.nx, ρ.set i e) := rfl
theorem putE_row (l : List (Nat × Nat)) (m n : Nat) (hl : l.length < 1000) : putE (.dcT (l.map kvD)) (.tuple [.int (m : Int), .int (n : Int)]) (.bool true) = some (.dcT ((putN l (m, n)).map kvD)) := by
  show ((some [Sum.inl (m : Int), Sum.inl (n : Int)]).bind fun ks' => if (l.map kvD).length < line then some (Ent.dcT (putD (l.map kvD) ks' (.bool true))) else none) = _
  rw [Option.bind_some, List.length_map, if_lt (by omega), put_row l (m, n)]
def stP (gs : List (List Nat)) (ks : List (Nat × Nat)) (p : Nat × Nat) : List (Nat × Nat) := match lkey gs p with | some k => putN ks k | none => ks
theorem putN_len (l : List (Nat × Nat)) (k : Nat × Nat) : (putN l k).length ≤ l.length + 1 := by
  unfold putN
  split
  · omega
  · rw [List.length_append]; simp
theorem y_minN (x y : Nat) : bi .min2 [eN x, eN y] = some (.int ((min x y : Nat) : Int)) := by
  show some (PyData.int (if (y : Int) < (x : Int) then (y : Int) else (x : Int))) = _
  by_cases h : (y : Int) < (x : Int)
  · rw [if_pos h, Nat.min_eq_right (by omega)]
  · rw [if_neg h, Nat.min_eq_left (by omega)]
theorem y_maxN (x y : Nat) : bi .max2 [eN x, eN y] = some (.int ((max x y : Nat) : Int)) := by
  show some (PyData.int (if (y : Int) > (x : Int) then (y : Int) else (x : Int))) = _
  by_cases h : (y : Int) > (x : Int)
  · rw [if_pos h, Nat.max_eq_right (by omega)]
  · rw [if_neg h, Nat.max_eq_left (by omega)]
theorem minI (a b : Nat) : (if (b : Int) < (a : Int) then PyData.int (b : Int) else PyData.int (a : Int)) = .int ((min a b : Nat) : Int) := by
  by_cases h : (b : Int) < (a : Int)
  · rw [if_pos h, Nat.min_eq_right (by omega)]
  · rw [if_neg h, Nat.min_eq_left (by omega)]
theorem v_skeys {G : Cfg} {b : Bool} {i : Nat} {ρ : En} {kvs : List (List L2.Key × D)} (h : ρ.getD i .no = .dcT kvs) : ev G b (.skeys i) ρ = (keysInts (kvs.map (·.1))).bind fun ks => if ks.all (fun k => !k.isEmpty) then some (.list ((sortL ks).map fun k => .tuple (k.map .int))) else none := by
  simp only [ev, h]
theorem r_pairs_of (N k : Nat) (gs : List (List Nat)) (ps : List (Nat × Nat)) (hg : gs.length < 100) (hp : ps.length < 100) : cal (tabOf fds) N (k + 1) "pairs_of" [eG gs, ePs ps] = some (ePs (pof gs ps)) := by
  rw [c_pairs_of _ _ _ rfl, b_pairs_of]
  have lp : ∀ (f : D → En → Option (Fl × En)), (∀ ks p, p ∈ ps → ks.length < 900 → turnE [3, 4, 5, 8] (f (eP p) [.val (eG gs), .val (ePs ps), .dcT (ks.map kvD), .no, .no, .no, .no, .no, .no]) = some [.val (eG gs), .val (ePs ps), .dcT ((stP gs ks p).map kvD), .no, .no, .no, .no, .no, .no]) →
      forGo f [3, 4, 5, 8] (ps.map eP) [.val (eG gs), .val (ePs ps), .dcT [], .no, .no, .no, .no, .no, .no] = some (.nx, [.val (eG gs), .val (ePs ps), .dcT ((keysOfLines gs ps).map kvD), .no, .no, .no, .no, .no, .no]) := by
    intro f hf
    have gen : ∀ (qs : List (Nat × Nat)) (ks : List (Nat × Nat)), (∀ q ∈ qs, q ∈ ps) → ks.length + qs.length < 900 → forGo f [3, 4, 5, 8] (qs.map eP) [.val (eG gs), .val (ePs ps), .dcT (ks.map kvD), .no, .no, .no, .no, .no, .no] = some (.nx, [.val (eG gs), .val (ePs ps), .dcT ((qs.foldl (stP gs) ks).map kvD), .no, .no, .no, .no, .no, .no]) := by
      intro qs
      induction qs with
      | nil => intro ks _ _; rfl
      | cons q qs ih =>
        intro ks hm hl
        rw [List.length_cons] at hl
        obtain ⟨fl, ρ', e1, e2, e3⟩ := turnE_some (hf ks q (hm q (List.mem_cons_self ..)) (by omega))
        have hl2 : (stP gs ks q).length ≤ ks.length + 1 := by
          unfold stP
          split
          · exact putN_len _ _
          · omega
        have ih' := ih (stP gs ks q) (fun x hx => hm x (List.mem_cons_of_mem _ hx)) (by omega)
        rw [List.map_cons, List.foldl_cons]
        simp only [forGo, e1, Option.bind_some]
        rcases e2 with rfl | rfl
        · simp only [e3]; exact ih'
        · simp only [e3]; exact ih'
    exact gen ps [] (fun q h => h) (by simp; omega)
  simp only [turnE_nx, turnE_cnt, rd_0, rd_o, rd_of, rd_s, gO_0, gO_s, gO2_0, gO2_s, bp_nm, bp_tp, bps_nil, bps_cons, bp_eP, v_var, v_int, v_bool, v_str, v_none, v_glb, v_op, v_ch, v_ch3, v_neg, v_not, v_and, v_or, v_b1, v_ife, v_tup, v_lst, v_idx, v_bi, v_call, v_callB, v_rev, v_cut, v_p0, v_p1, vs_nil, vs_cons, f_0, f_1, i_s, i_r1, i_r2, i_e, i_z, v_lc, v_lc2, v_ssc, v_ssc2, v_sst, v_lset, x_nil, x_cons, t_nx, t_brk, t_cnt, t_ret, x_asgF, x_asgT, x_asgp, x_par, sets_nil, sets_cons, x_app, x_ext, x_exp, x_own2, x_newT, x_ret, x_ite, x_for, x_whl, x_frz, fz_o, fz_o2, fz_v, e_rF, e_rT, e_nF, sq_l, sq_t, sx_l, sx_t, sl_l, sq_L, sx_L, sl_L, sq_Ps, sx_Ps, sl_Ps, sq_G, sx_G, sl_G, sx_P, ai, ab, at0, at1, p_add, p_sub, p_lt, p_le, p_gt, p_ge, p_isB, p_isnB, p_isN, p_isnN, y_len, y_lenT, y_lenL, y_lenPs, y_lenG, y_int, y_intB, y_abs, y_min2, y_max2, y_gcd, y_list, y_listL, y_listPs, y_all, wipeE, frE, bib, Option.bind_some, Option.map_some, List.getD_cons_zero, List.getD_cons_succ, List.set_cons_zero, List.set_cons_succ, List.map_cons, List.map_nil, List.length_cons, List.length_nil, List.replicate, List.cons_append, List.nil_append, if_true, if_false, Bool.false_eq_true, Nat.reduceSub, Nat.reduceAdd, Nat.reduceLeDiff]
  rw [lp]
  · simp only [turnE_nx, turnE_cnt, rd_0, rd_o, rd_of, rd_s, gO_0, gO_s, gO2_0, gO2_s, bp_nm, bp_tp, bps_nil, bps_cons, bp_eP, v_var, v_int, v_bool, v_str, v_none, v_glb, v_op, v_ch, v_ch3, v_neg, v_not, v_and, v_or, v_b1, v_ife, v_tup, v_lst, v_idx, v_bi, v_call, v_callB, v_rev, v_cut, v_p0, v_p1, vs_nil, vs_cons, f_0, f_1, i_s, i_r1, i_r2, i_e, i_z, v_lc, v_lc2, v_ssc, v_ssc2, v_sst, v_lset, x_nil, x_cons, t_nx, t_brk, t_cnt, t_ret, x_asgF, x_asgT, x_asgp, x_par, sets_nil, sets_cons, x_app, x_ext, x_exp, x_own2, x_newT, x_ret, x_ite, x_for, x_whl, x_frz, fz_o, fz_o2, fz_v, e_rF, e_rT, e_nF, sq_l, sq_t, sx_l, sx_t, sl_l, sq_L, sx_L, sl_L, sq_Ps, sx_Ps, sl_Ps, sq_G, sx_G, sl_G, sx_P, ai, ab, at0, at1, p_add, p_sub, p_lt, p_le, p_gt, p_ge, p_isB, p_isnB, p_isN, p_isnN, y_len, y_lenT, y_lenL, y_lenPs, y_lenG, y_int, y_intB, y_abs, y_min2, y_max2, y_gcd, y_list, y_listL, y_listPs, y_all, wipeE, frE, bib, Option.bind_some, Option.map_some, List.getD_cons_zero, List.getD_cons_succ, List.set_cons_zero, List.set_cons_succ, List.map_cons, List.map_nil, List.length_cons, List.length_nil, List.replicate, List.cons_append, List.nil_append, if_true, if_false, Bool.false_eq_true, Nat.reduceSub, Nat.reduceAdd, Nat.reduceLeDiff]
    rw [v_skeys (kvs := (keysOfLines gs ps).map kvD) rfl, keys_row]
    simp only [turnE_nx, turnE_cnt, rd_0, rd_o, rd_of, rd_s, gO_0, gO_s, gO2_0, gO2_s, bp_nm, bp_tp, bps_nil, bps_cons, bp_eP, v_var, v_int, v_bool, v_str, v_none, v_glb, v_op, v_ch, v_ch3, v_neg, v_not, v_and, v_or, v_b1, v_ife, v_tup, v_lst, v_idx, v_bi, v_call, v_callB, v_rev, v_cut, v_p0, v_p1, vs_nil, vs_cons, f_0, f_1, i_s, i_r1, i_r2, i_e, i_z, v_lc, v_lc2, v_ssc, v_ssc2, v_sst, v_lset, x_nil, x_cons, t_nx, t_brk, t_cnt, t_ret, x_asgF, x_asgT, x_asgp, x_par, sets_nil, sets_cons, x_app, x_ext, x_exp, x_own2, x_newT, x_ret, x_ite, x_for, x_whl, x_frz, fz_o, fz_o2, fz_v, e_rF, e_rT, e_nF, sq_l, sq_t, sx_l, sx_t, sl_l, sq_L, sx_L, sl_L, sq_Ps, sx_Ps, sl_Ps, sq_G, sx_G, sl_G, sx_P, ai, ab, at0, at1, p_add, p_sub, p_lt, p_le, p_gt, p_ge, p_isB, p_isnB, p_isN, p_isnN, y_len, y_lenT, y_lenL, y_lenPs, y_lenG, y_int, y_intB, y_abs, y_min2, y_max2, y_gcd, y_list, y_listL, y_listPs, y_all, wipeE, frE, bib, Option.bind_some, Option.map_some, List.getD_cons_zero, List.getD_cons_succ, List.set_cons_zero, List.set_cons_succ, List.map_cons, List.map_nil, List.length_cons, List.length_nil, List.replicate, List.cons_append, List.nil_append, if_true, if_false, Bool.false_eq_true, Nat.reduceSub, Nat.reduceAdd, Nat.reduceLeDiff]
    rw [if_pos (by simp [List.all_map, toRow]), sort_row]
    simp only [turnE_nx, turnE_cnt, rd_0, rd_o, rd_of, rd_s, gO_0, gO_s, gO2_0, gO2_s, bp_nm, bp_tp, bps_nil, bps_cons, bp_eP, v_var, v_int, v_bool, v_str, v_none, v_glb, v_op, v_ch, v_ch3, v_neg, v_not, v_and, v_or, v_b1, v_ife, v_tup, v_lst, v_idx, v_bi, v_call, v_callB, v_rev, v_cut, v_p0, v_p1, vs_nil, vs_cons, f_0, f_1, i_s, i_r1, i_r2, i_e, i_z, v_lc, v_lc2, v_ssc, v_ssc2, v_sst, v_lset, x_nil, x_cons, t_nx, t_brk, t_cnt, t_ret, x_asgF, x_asgT, x_asgp, x_par, sets_nil, sets_cons, x_app, x_ext, x_exp, x_own2, x_newT, x_ret, x_ite, x_for, x_whl, x_frz, fz_o, fz_o2, fz_v, e_rF, e_rT, e_nF, sq_l, sq_t, sx_l, sx_t, sl_l, sq_L, sx_L, sl_L, sq_Ps, sx_Ps, sl_Ps, sq_G, sx_G, sl_G, sx_P, ai, ab, at0, at1, p_add, p_sub, p_lt, p_le, p_gt, p_ge, p_isB, p_isnB, p_isN, p_isnN, y_len, y_lenT, y_lenL, y_lenPs, y_lenG, y_int, y_intB, y_abs, y_min2, y_max2, y_gcd, y_list, y_listL, y_listPs, y_all, wipeE, frE, bib, Option.bind_some, Option.map_some, List.getD_cons_zero, List.getD_cons_succ, List.set_cons_zero, List.set_cons_succ, List.map_cons, List.map_nil, List.length_cons, List.length_nil, List.replicate, List.cons_append, List.nil_append, if_true, if_false, Bool.false_eq_true, Nat.reduceSub, Nat.reduceAdd, Nat.reduceLeDiff, List.map_map]
    rfl
  · intro ks p hp' hk
    obtain ⟨a, b⟩ := p
    have l1 := ix_len gs a
    have l2 := ix_len gs b
    simp only [turnE_nx, turnE_cnt, rd_0, rd_o, rd_of, rd_s, gO_0, gO_s, gO2_0, gO2_s, bp_nm, bp_tp, bps_nil, bps_cons, bp_eP, v_var, v_int, v_bool, v_str, v_none, v_glb, v_op, v_ch, v_ch3, v_neg, v_not, v_and, v_or, v_b1, v_ife, v_tup, v_lst, v_idx, v_bi, v_call, v_callB, v_rev, v_cut, v_p0, v_p1, vs_nil, vs_cons, f_0, f_1, i_s, i_r1, i_r2, i_e, i_z, v_lc, v_lc2, v_ssc, v_ssc2, v_sst, v_lset, x_nil, x_cons, t_nx, t_brk, t_cnt, t_ret, x_asgF, x_asgT, x_asgp, x_par, sets_nil, sets_cons, x_app, x_ext, x_exp, x_own2, x_newT, x_ret, x_ite, x_for, x_whl, x_frz, fz_o, fz_o2, fz_v, e_rF, e_rT, e_nF, sq_l, sq_t, sx_l, sx_t, sl_l, sq_L, sx_L, sl_L, sq_Ps, sx_Ps, sl_Ps, sq_G, sx_G, sl_G, sx_P, ai, ab, at0, at1, p_add, p_sub, p_lt, p_le, p_gt, p_ge, p_isB, p_isnB, p_isN, p_isnN, y_len, y_lenT, y_lenL, y_lenPs, y_lenG, y_int, y_intB, y_abs, y_min2, y_max2, y_gcd, y_list, y_listL, y_listPs, y_all, wipeE, frE, bib, Option.bind_some, Option.map_some, List.getD_cons_zero, List.getD_cons_succ, List.set_cons_zero, List.set_cons_succ, List.map_cons, List.map_nil, List.length_cons, List.length_nil, List.replicate, List.cons_append, List.nil_append, if_true, if_false, Bool.false_eq_true, Nat.reduceSub, Nat.reduceAdd, Nat.reduceLeDiff, eN, ix_ev3, ix_ev4, List.length_map, if_lt (show (ix gs a).length < 1000000 by omega), if_lt (show (ix gs b).length < 1000000 by omega), o_neL']
    unfold stP lkey
    simp only []
    cases ha : ix gs a with
    | nil => simp only [turnE_nx, turnE_cnt, rd_0, rd_o, rd_of, rd_s, gO_0, gO_s, gO2_0, gO2_s, bp_nm, bp_tp, bps_nil, bps_cons, bp_eP, v_var, v_int, v_bool, v_str, v_none, v_glb, v_op, v_ch, v_ch3, v_neg, v_not, v_and, v_or, v_b1, v_ife, v_tup, v_lst, v_idx, v_bi, v_call, v_callB, v_rev, v_cut, v_p0, v_p1, vs_nil, vs_cons, f_0, f_1, i_s, i_r1, i_r2, i_e, i_z, v_lc, v_lc2, v_ssc, v_ssc2, v_sst, v_lset, x_nil, x_cons, t_nx, t_brk, t_cnt, t_ret, x_asgF, x_asgT, x_asgp, x_par, sets_nil, sets_cons, x_app, x_ext, x_exp, x_own2, x_newT, x_ret, x_ite, x_for, x_whl, x_frz, fz_o, fz_o2, fz_v, e_rF, e_rT, e_nF, sq_l, sq_t, sx_l, sx_t, sl_l, sq_L, sx_L, sl_L, sq_Ps, sx_Ps, sl_Ps, sq_G, sx_G, sl_G, sx_P, ai, ab, at0, at1, p_add, p_sub, p_lt, p_le, p_gt, p_ge, p_isB, p_isnB, p_isN, p_isnN, y_len, y_lenT, y_lenL, y_lenPs, y_lenG, y_int, y_intB, y_abs, y_min2, y_max2, y_gcd, y_list, y_listL, y_listPs, y_all, wipeE, frE, bib, Option.bind_some, Option.map_some, List.getD_cons_zero, List.getD_cons_succ, List.set_cons_zero, List.set_cons_succ, List.map_cons, List.map_nil, List.length_cons, List.length_nil, List.replicate, List.cons_append, List.nil_append, if_true, if_false, Bool.false_eq_true, Nat.reduceSub, Nat.reduceAdd, Nat.reduceLeDiff]; rfl
    | cons x xs =>
      cases hb : ix gs b with
      | nil =>
        have g1 : decide ((0 : Int) < ((xs.length + 1 : Nat) : Int)) = true := decide_eq_true (by omega)
        simp only [turnE_nx, turnE_cnt, rd_0, rd_o, rd_of, rd_s, gO_0, gO_s, gO2_0, gO2_s, bp_nm, bp_tp, bps_nil, bps_cons, bp_eP, v_var, v_int, v_bool, v_str, v_none, v_glb, v_op, v_ch, v_ch3, v_neg, v_not, v_and, v_or, v_b1, v_ife, v_tup, v_lst, v_idx, v_bi, v_call, v_callB, v_rev, v_cut, v_p0, v_p1, vs_nil, vs_cons, f_0, f_1, i_s, i_r1, i_r2, i_e, i_z, v_lc, v_lc2, v_ssc, v_ssc2, v_sst, v_lset, x_nil, x_cons, t_nx, t_brk, t_cnt, t_ret, x_asgF, x_asgT, x_asgp, x_par, sets_nil, sets_cons, x_app, x_ext, x_exp, x_own2, x_newT, x_ret, x_ite, x_for, x_whl, x_frz, fz_o, fz_o2, fz_v, e_rF, e_rT, e_nF, sq_l, sq_t, sx_l, sx_t, sl_l, sq_L, sx_L, sl_L, sq_Ps, sx_Ps, sl_Ps, sq_G, sx_G, sl_G, sx_P, ai, ab, at0, at1, p_add, p_sub, p_lt, p_le, p_gt, p_ge, p_isB, p_isnB, p_isN, p_isnN, y_len, y_lenT, y_lenL, y_lenPs, y_lenG, y_int, y_intB, y_abs, y_min2, y_max2, y_gcd, y_list, y_listL, y_listPs, y_all, wipeE, frE, bib, Option.bind_some, Option.map_some, List.getD_cons_zero, List.getD_cons_succ, List.set_cons_zero, List.set_cons_succ, List.map_cons, List.map_nil, List.length_cons, List.length_nil, List.replicate, List.cons_append, List.nil_append, if_true, if_false, Bool.false_eq_true, Nat.reduceSub, Nat.reduceAdd, Nat.reduceLeDiff, g1]
        rfl
      | cons y ys =>
        have g1 : decide ((0 : Int) < ((xs.length + 1 : Nat) : Int)) = true := decide_eq_true (by omega)
        have g2 : decide ((0 : Int) < ((ys.length + 1 : Nat) : Int)) = true := decide_eq_true (by omega)
        by_cases he : x :: xs = y :: ys
        · simp only [turnE_nx, turnE_cnt, rd_0, rd_o, rd_of, rd_s, gO_0, gO_s, gO2_0, gO2_s, bp_nm, bp_tp, bps_nil, bps_cons, bp_eP, v_var, v_int, v_bool, v_str, v_none, v_glb, v_op, v_ch, v_ch3, v_neg, v_not, v_and, v_or, v_b1, v_ife, v_tup, v_lst, v_idx, v_bi, v_call, v_callB, v_rev, v_cut, v_p0, v_p1, vs_nil, vs_cons, f_0, f_1, i_s, i_r1, i_r2, i_e, i_z, v_lc, v_lc2, v_ssc, v_ssc2, v_sst, v_lset, x_nil, x_cons, t_nx, t_brk, t_cnt, t_ret, x_asgF, x_asgT, x_asgp, x_par, sets_nil, sets_cons, x_app, x_ext, x_exp, x_own2, x_newT, x_ret, x_ite, x_for, x_whl, x_frz, fz_o, fz_o2, fz_v, e_rF, e_rT, e_nF, sq_l, sq_t, sx_l, sx_t, sl_l, sq_L, sx_L, sl_L, sq_Ps, sx_Ps, sl_Ps, sq_G, sx_G, sl_G, sx_P, ai, ab, at0, at1, p_add, p_sub, p_lt, p_le, p_gt, p_ge, p_isB, p_isnB, p_isN, p_isnN, y_len, y_lenT, y_lenL, y_lenPs, y_lenG, y_int, y_intB, y_abs, y_min2, y_max2, y_gcd, y_list, y_listL, y_listPs, y_all, wipeE, frE, bib, Option.bind_some, Option.map_some, List.getD_cons_zero, List.getD_cons_succ, List.set_cons_zero, List.set_cons_succ, List.map_cons, List.map_nil, List.length_cons, List.length_nil, List.replicate, List.cons_append, List.nil_append, if_true, if_false, Bool.false_eq_true, Nat.reduceSub, Nat.reduceAdd, Nat.reduceLeDiff, g1, g2, he, decide_true, Bool.not_true]
        · simp only [turnE_nx, turnE_cnt, rd_0, rd_o, rd_of, rd_s, gO_0, gO_s, gO2_0, gO2_s, bp_nm, bp_tp, bps_nil, bps_cons, bp_eP, v_var, v_int, v_bool, v_str, v_none, v_glb, v_op, v_ch, v_ch3, v_neg, v_not, v_and, v_or, v_b1, v_ife, v_tup, v_lst, v_idx, v_bi, v_call, v_callB, v_rev, v_cut, v_p0, v_p1, vs_nil, vs_cons, f_0, f_1, i_s, i_r1, i_r2, i_e, i_z, v_lc, v_lc2, v_ssc, v_ssc2, v_sst, v_lset, x_nil, x_cons, t_nx, t_brk, t_cnt, t_ret, x_asgF, x_asgT, x_asgp, x_par, sets_nil, sets_cons, x_app, x_ext, x_exp, x_own2, x_newT, x_ret, x_ite, x_for, x_whl, x_frz, fz_o, fz_o2, fz_v, e_rF, e_rT, e_nF, sq_l, sq_t, sx_l, sx_t, sl_l, sq_L, sx_L, sl_L, sq_Ps, sx_Ps, sl_Ps, sq_G, sx_G, sl_G, sx_P, ai, ab, at0, at1, p_add, p_sub, p_lt, p_le, p_gt, p_ge, p_isB, p_isnB, p_isN, p_isnN, y_len, y_lenT, y_lenL, y_lenPs, y_lenG, y_int, y_intB, y_abs, y_min2, y_max2, y_gcd, y_list, y_listL, y_listPs, y_all, wipeE, frE, bib, Option.bind_some, Option.map_some, List.getD_cons_zero, List.getD_cons_succ, List.set_cons_zero, List.set_cons_succ, List.map_cons, List.map_nil, List.length_cons, List.length_nil, List.replicate, List.cons_append, List.nil_append, if_true, if_false, Bool.false_eq_true, Nat.reduceSub, Nat.reduceAdd, Nat.reduceLeDiff, g1, g2, decide_eq_false he, Bool.not_false, if_neg he, x_put, at_cons]
          simp only [y_minN, y_maxN, turnE_nx, turnE_cnt, rd_0, rd_o, rd_of, rd_s, gO_0, gO_s, gO2_0, gO2_s, bp_nm, bp_tp, bps_nil, bps_cons, bp_eP, v_var, v_int, v_bool, v_str, v_none, v_glb, v_op, v_ch, v_ch3, v_neg, v_not, v_and, v_or, v_b1, v_ife, v_tup, v_lst, v_idx, v_bi, v_call, v_callB, v_rev, v_cut, v_p0, v_p1, vs_nil, vs_cons, f_0, f_1, i_s, i_r1, i_r2, i_e, i_z, v_lc, v_lc2, v_ssc, v_ssc2, v_sst, v_lset, x_nil, x_cons, t_nx, t_brk, t_cnt, t_ret, x_asgF, x_asgT, x_asgp, x_par, sets_nil, sets_cons, x_app, x_ext, x_exp, x_own2, x_newT, x_ret, x_ite, x_for, x_whl, x_frz, fz_o, fz_o2, fz_v, e_rF, e_rT, e_nF, sq_l, sq_t, sx_l, sx_t, sl_l, sq_L, sx_L, sl_L, sq_Ps, sx_Ps, sl_Ps, sq_G, sx_G, sl_G, sx_P, ai, ab, at0, at1, p_add, p_sub, p_lt, p_le, p_gt, p_ge, p_isB, p_isnB, p_isN, p_isnN, y_len, y_lenT, y_lenL, y_lenPs, y_lenG, y_int, y_intB, y_abs, y_min2, y_max2, y_gcd, y_list, y_listL, y_listPs, y_all, wipeE, frE, bib, Option.bind_some, Option.map_some, List.getD_cons_zero, List.getD_cons_succ, List.set_cons_zero, List.set_cons_succ, List.map_cons, List.map_nil, List.length_cons, List.length_nil, List.replicate, List.cons_append, List.nil_append, if_true, if_false, Bool.false_eq_true, Nat.reduceSub, Nat.reduceAdd, Nat.reduceLeDiff]
          rw [if_le (by decide)]
          simp only [turnE_nx, turnE_cnt, rd_0, rd_o, rd_of, rd_s, gO_0, gO_s, gO2_0, gO2_s, bp_nm, bp_tp, bps_nil, bps_cons, bp_eP, v_var, v_int, v_bool, v_str, v_none, v_glb, v_op, v_ch, v_ch3, v_neg, v_not, v_and, v_or, v_b1, v_ife, v_tup, v_lst, v_idx, v_bi, v_call, v_callB, v_rev, v_cut, v_p0, v_p1, vs_nil, vs_cons, f_0, f_1, i_s, i_r1, i_r2, i_e, i_z, v_lc, v_lc2, v_ssc, v_ssc2, v_sst, v_lset, x_nil, x_cons, t_nx, t_brk, t_cnt, t_ret, x_asgF, x_asgT, x_asgp, x_par, sets_nil, sets_cons, x_app, x_ext, x_exp, x_own2, x_newT, x_ret, x_ite, x_for, x_whl, x_frz, fz_o, fz_o2, fz_v, e_rF, e_rT, e_nF, sq_l, sq_t, sx_l, sx_t, sl_l, sq_L, sx_L, sl_L, sq_Ps, sx_Ps, sl_Ps, sq_G, sx_G, sl_G, sx_P, ai, ab, at0, at1, p_add, p_sub, p_lt, p_le, p_gt, p_ge, p_isB, p_isnB, p_isN, p_isnN, y_len, y_lenT, y_lenL, y_lenPs, y_lenG, y_int, y_intB, y_abs, y_min2, y_max2, y_gcd, y_list, y_listL, y_listPs, y_all, wipeE, frE, bib, Option.bind_some, Option.map_some, List.getD_cons_zero, List.getD_cons_succ, List.set_cons_zero, List.set_cons_succ, List.map_cons, List.map_nil, List.length_cons, List.length_nil, List.replicate, List.cons_append, List.nil_append, if_true, if_false, Bool.false_eq_true, Nat.reduceSub, Nat.reduceAdd, Nat.reduceLeDiff, putE_row ks _ _ (show ks.length < 1000 by omega)]
end K19

set_option Elab.async false
set_option linter.all false
set_option maxRecDepth 100000
set_option maxHeartbeats 4000000
namespace K19
open PySem Pv
/-! ### worn -/
def endsN (l : List (Nat × Nat)) (v : Nat) : List Nat := (l.filter fun p => p.1 = v).map (·.2) ++ (l.filter fun p => p.2 = v).map (·.1)
def offN (l : List (Nat × Nat)) (v : Nat) : List (Nat × Nat) := l.filter fun p => !(decide (p.1 = v) || decide (p.2 = v))
def wst (s : List (Nat × Nat) × Bool) (v : Nat) : List (Nat × Nat) × Bool := match endsN s.1 v with
  | [_] => (offN s.1 v, true)
  | [x, y] => (if (min x y, max x y) ∈ offN s.1 v then offN s.1 v else offN s.1 v ++ [(min x y, max x y)], true)
  | _ => s
def nodesN (l : List (Nat × Nat)) : List Nat := sortN (dedupN (l.flatMap fun p => [p.1, p.2]))
def wround (s : List (Nat × Nat) × Bool) : List (Nat × Nat) × Bool := (nodesN s.1).foldl wst (s.1, false)
def wornM (N : Nat) (l : List (Nat × Nat)) : Option Bool := (itW (fun s : List (Nat × Nat) × Bool => s.2) wround N (l, true)).map fun s => s.1.isEmpty
theorem off_lt {l : List (Nat × Nat)} {v : Nat} (h : endsN l v ≠ []) : (offN l v).length < l.length := by
  have : ∃ p ∈ l, p.1 = v ∨ p.2 = v := by
    cases e : endsN l v with
    | nil => exact absurd e h
    | cons x r =>
      have hx : x ∈ endsN l v := by rw [e]; exact List.mem_cons_self ..
      unfold endsN at hx
      rcases List.mem_append.mp hx with hx | hx
      · obtain ⟨p, hp, _⟩ := List.mem_map.mp hx
        exact ⟨p, (List.mem_filter.mp hp).1, .inl (of_decide_eq_true (List.mem_filter.mp hp).2)⟩
      · obtain ⟨p, hp, _⟩ := List.mem_map.mp hx
        exact ⟨p, (List.mem_filter.mp hp).1, .inr (of_decide_eq_true (List.mem_filter.mp hp).2)⟩
  obtain ⟨p, hp, hv⟩ := this
  unfold offN
  have h1 := List.length_filter_le (fun p : Nat × Nat => !(decide (p.1 = v) || decide (p.2 = v))) l
  rcases Nat.lt_or_eq_of_le h1 with h2 | h2
  · exact h2
  · exfalso
    have h3 := List.length_filter_eq_length_iff.mp h2 p hp
    rcases hv with e | e <;> simp [e] at h3
theorem wst_len (s : List (Nat × Nat) × Bool) (v : Nat) : (wst s v).1.length ≤ s.1.length := by
  unfold wst
  split
  · rename_i x e
    exact Nat.le_of_lt (off_lt (by rw [e]; simp))
  · rename_i x y e
    have := off_lt (l := s.1) (v := v) (by rw [e]; simp)
    simp only
    split
    · omega
    · rw [List.length_append]; simp; omega
  · exact Nat.le_refl _
theorem round_len : ∀ (vs : List Nat) (s : List (Nat × Nat) × Bool), (vs.foldl wst s).1.length ≤ s.1.length
  | [], s => Nat.le_refl _
  | v :: vs, s => Nat.le_trans (round_len vs (wst s v)) (wst_len s v)
theorem off_ev (N k : Nat) (ρ : En) (l : List (Nat × Nat)) (v : Nat) (e0 e1 e2 e5 : Ent) : lcGo (elOf (CG N k) [e0, e1, e2, .val (.int v), .no, e5] (.var 4) (.nm 4) (.cons (.op .notIn (.var 3) (.var 4)) .nil) [4]) (l.map eP) = some ((offN l v).map eP) := by
  rw [lcGo_filter _ eP (fun p => !(decide (p.1 = v) || decide (p.2 = v))) l fun p hp => ?_]
  · rfl
  · simp only [elOf, turnE_nx, turnE_cnt, rd_0, rd_o, rd_of, rd_s, gO_0, gO_s, gO2_0, gO2_s, bp_nm, bp_tp, bps_nil, bps_cons, bp_eP, v_var, v_int, v_bool, v_str, v_none, v_glb, v_op, v_ch, v_ch3, v_neg, v_not, v_and, v_or, v_b1, v_ife, v_tup, v_lst, v_idx, v_bi, v_call, v_callB, v_rev, v_cut, v_p0, v_p1, vs_nil, vs_cons, f_0, f_1, i_s, i_r1, i_r2, i_e, i_z, v_lc, v_lc2, v_ssc, v_ssc2, v_sst, v_lset, x_nil, x_cons, t_nx, t_brk, t_cnt, t_ret, x_asgF, x_asgT, x_asgp, x_par, sets_nil, sets_cons, x_app, x_ext, x_exp, x_own2, x_newT, x_ret, x_ite, x_for, x_whl, x_frz, fz_o, fz_o2, fz_v, e_rF, e_rT, e_nF, sq_l, sq_t, sx_l, sx_t, sl_l, sq_L, sx_L, sl_L, sq_Ps, sx_Ps, sl_Ps, sq_G, sx_G, sl_G, sx_P, ai, ab, at0, at1, p_add, p_sub, p_lt, p_le, p_gt, p_ge, p_isB, p_isnB, p_isN, p_isnN, y_len, y_lenT, y_lenL, y_lenPs, y_lenG, y_int, y_intB, y_abs, y_min2, y_max2, y_gcd, y_list, y_listL, y_listPs, y_all, wipeE, frE, bib, Option.bind_some, Option.map_some, List.getD_cons_zero, List.getD_cons_succ, List.set_cons_zero, List.set_cons_succ, List.map_cons, List.map_nil, List.length_cons, List.length_nil, List.replicate, List.cons_append, List.nil_append, if_true, if_false, Bool.false_eq_true, Nat.reduceSub, Nat.reduceAdd, Nat.reduceLeDiff, show op2 .notIn (.int (v : Int)) (eP p) = _ from o_inP p v]
    by_cases h1 : p.1 = v <;> by_cases h2 : p.2 = v <;> simp [h1, h2]
theorem flat2_len : ∀ l : List (Nat × Nat), (l.flatMap fun p => [p.1, p.2]).length = 2 * l.length
  | [] => rfl
  | a :: r => by rw [List.flatMap_cons, List.length_append, flat2_len r]; simp; omega
theorem nodes_ev (N k : Nat) (l : List (Nat × Nat)) (e0 e1 e2 e3 e5 : Ent) : lcGo2 (el2Of (CG N k) [e0, e1, e2, e3, .no, e5] (.var 3) (.nm 4) .nil [4, 3] (.seq (.var 4)) (.nm 3) .nil [3]) (l.map eP) = some ((l.flatMap fun p => [p.1, p.2]).map eN) := by
  refine lcGo2_fm _ eP eN _ l fun p hp => ?_
  simp only [el2Of, turnE_nx, turnE_cnt, rd_0, rd_o, rd_of, rd_s, gO_0, gO_s, gO2_0, gO2_s, bp_nm, bp_tp, bps_nil, bps_cons, bp_eP, v_var, v_int, v_bool, v_str, v_none, v_glb, v_op, v_ch, v_ch3, v_neg, v_not, v_and, v_or, v_b1, v_ife, v_tup, v_lst, v_idx, v_bi, v_call, v_callB, v_rev, v_cut, v_p0, v_p1, vs_nil, vs_cons, f_0, f_1, i_s, i_r1, i_r2, i_e, i_z, v_lc, v_lc2, v_ssc, v_ssc2, v_sst, v_lset, x_nil, x_cons, t_nx, t_brk, t_cnt, t_ret, x_asgF, x_asgT, x_asgp, x_par, sets_nil, sets_cons, x_app, x_ext, x_exp, x_own2, x_newT, x_ret, x_ite, x_for, x_whl, x_frz, fz_o, fz_o2, fz_v, e_rF, e_rT, e_nF, sq_l, sq_t, sx_l, sx_t, sl_l, sq_L, sx_L, sl_L, sq_Ps, sx_Ps, sl_Ps, sq_G, sx_G, sl_G, sx_P, ai, ab, at0, at1, p_add, p_sub, p_lt, p_le, p_gt, p_ge, p_isB, p_isnB, p_isN, p_isnN, y_len, y_lenT, y_lenL, y_lenPs, y_lenG, y_int, y_intB, y_abs, y_min2, y_max2, y_gcd, y_list, y_listL, y_listPs, y_all, wipeE, frE, bib, Option.bind_some, Option.map_some, List.getD_cons_zero, List.getD_cons_succ, List.set_cons_zero, List.set_cons_succ, List.map_cons, List.map_nil, List.length_cons, List.length_nil, List.replicate, List.cons_append, List.nil_append, if_true, if_false, Bool.false_eq_true, Nat.reduceSub, Nat.reduceAdd, Nat.reduceLeDiff, sq_P]
  simp only [lcGo, elOf, turnE_nx, turnE_cnt, rd_0, rd_o, rd_of, rd_s, gO_0, gO_s, gO2_0, gO2_s, bp_nm, bp_tp, bps_nil, bps_cons, bp_eP, v_var, v_int, v_bool, v_str, v_none, v_glb, v_op, v_ch, v_ch3, v_neg, v_not, v_and, v_or, v_b1, v_ife, v_tup, v_lst, v_idx, v_bi, v_call, v_callB, v_rev, v_cut, v_p0, v_p1, vs_nil, vs_cons, f_0, f_1, i_s, i_r1, i_r2, i_e, i_z, v_lc, v_lc2, v_ssc, v_ssc2, v_sst, v_lset, x_nil, x_cons, t_nx, t_brk, t_cnt, t_ret, x_asgF, x_asgT, x_asgp, x_par, sets_nil, sets_cons, x_app, x_ext, x_exp, x_own2, x_newT, x_ret, x_ite, x_for, x_whl, x_frz, fz_o, fz_o2, fz_v, e_rF, e_rT, e_nF, sq_l, sq_t, sx_l, sx_t, sl_l, sq_L, sx_L, sl_L, sq_Ps, sx_Ps, sl_Ps, sq_G, sx_G, sl_G, sx_P, ai, ab, at0, at1, p_add, p_sub, p_lt, p_le, p_gt, p_ge, p_isB, p_isnB, p_isN, p_isnN, y_len, y_lenT, y_lenL, y_lenPs, y_lenG, y_int, y_intB, y_abs, y_min2, y_max2, y_gcd, y_list, y_listL, y_listPs, y_all, wipeE, frE, bib, Option.bind_some, Option.map_some, List.getD_cons_zero, List.getD_cons_succ, List.set_cons_zero, List.set_cons_succ, List.map_cons, List.map_nil, List.length_cons, List.length_nil, List.replicate, List.cons_append, List.nil_append, if_true, if_false, Bool.false_eq_true, Nat.reduceSub, Nat.reduceAdd, Nat.reduceLeDiff]
theorem y_min1_2 (x y : Nat) : bi .min1 [eL [x, y]] = some (.int ((min x y : Nat) : Int)) := by
  show some (PyData.int (if (y : Int) < (x : Int) then (y : Int) else (x : Int))) = _
  by_cases h : (y : Int) < (x : Int)
  · rw [if_pos h, Nat.min_eq_right (by omega)]
  · rw [if_neg h, Nat.min_eq_left (by omega)]
theorem y_max1_2 (x y : Nat) : bi .max1 [eL [x, y]] = some (.int ((max x y : Nat) : Int)) := by
  show some (PyData.int (if (x : Int) < (y : Int) then (y : Int) else (x : Int))) = _
  by_cases h : (x : Int) < (y : Int)
  · rw [if_pos h, Nat.max_eq_right (by omega)]
  · rw [if_neg h, Nat.max_eq_left (by omega)]
theorem worn_turn (N k : Nat) (ps l : List (Nat × Nat)) (g : Bool) (v : Nat) (hl : l.length < 1000) : turnE [3, 5] ((bindPat (.nm 3) (eN v) [.val (ePs ps), .own (l.map eP), .val (.bool g), .no, .no, .no]).bind fun ρ1 => exs (CG N (k + 1)) N
    (.cons (.asg false 5 (.callB "ends_of" (.cons (.var 1) (.cons (.var 3) .nil)))) (.cons (.ite (.ch .le .le (.con (.int 1)) (.bi .len (.cons (.var 5) .nil)) (.con (.int 2))) (.cons (.asg true 1 (.lc (.var 4) (.nm 4) (.seq (.var 1)) (.cons (.op .notIn (.var 3) (.var 4)) .nil) [4])) (.cons (.ite (.bool true (.cons (.op .eq (.bi .len (.cons (.var 5) .nil)) (.con (.int 2))) (.cons (.op .notIn (.tup (.cons (.bi .min1 (.cons (.var 5) .nil)) (.cons (.bi .max1 (.cons (.var 5) .nil)) .nil))) (.var 1)) .nil))) (.cons (.app 1 (.tup (.cons (.bi .min1 (.cons (.var 5) .nil)) (.cons (.bi .max1 (.cons (.var 5) .nil)) .nil)))) .nil) .nil) (.cons (.asg false 2 (.con (.bool true))) .nil))) .nil) .nil)) ρ1) =
    some [.val (ePs ps), .own ((wst (l, g) v).1.map eP), .val (.bool (wst (l, g) v).2), .no, .no, .no] := by
  have re : cal (tabOf fds) N (k + 1) "ends_of" [.list (l.map eP), .int v] = some (eL (endsN l v)) := r_ends N k l v hl
  have hf : (CG N (k + 1)).Fr "ends_of" = true := fr_ends_of
  have ov := fun e5 => off_ev N (k + 1) [] l v (.val (ePs ps)) (.own (l.map eP)) (.val (.bool g)) e5
  have ol : (offN l v).length ≤ l.length := List.length_filter_le _ _
  simp only [turnE_nx, turnE_cnt, rd_0, rd_o, rd_of, rd_s, gO_0, gO_s, gO2_0, gO2_s, bp_nm, bp_tp, bps_nil, bps_cons, bp_eP, v_var, v_int, v_bool, v_str, v_none, v_glb, v_op, v_ch, v_ch3, v_neg, v_not, v_and, v_or, v_b1, v_ife, v_tup, v_lst, v_idx, v_bi, v_call, v_callB, v_rev, v_cut, v_p0, v_p1, vs_nil, vs_cons, f_0, f_1, i_s, i_r1, i_r2, i_e, i_z, v_lc, v_lc2, v_ssc, v_ssc2, v_sst, v_lset, x_nil, x_cons, t_nx, t_brk, t_cnt, t_ret, x_asgF, x_asgT, x_asgp, x_par, sets_nil, sets_cons, x_app, x_ext, x_exp, x_own2, x_newT, x_ret, x_ite, x_for, x_whl, x_frz, fz_o, fz_o2, fz_v, e_rF, e_rT, e_nF, sq_l, sq_t, sx_l, sx_t, sl_l, sq_L, sx_L, sl_L, sq_Ps, sx_Ps, sl_Ps, sq_G, sx_G, sl_G, sx_P, ai, ab, at0, at1, p_add, p_sub, p_lt, p_le, p_gt, p_ge, p_isB, p_isnB, p_isN, p_isnN, y_len, y_lenT, y_lenL, y_lenPs, y_lenG, y_int, y_intB, y_abs, y_min2, y_max2, y_gcd, y_list, y_listL, y_listPs, y_all, wipeE, frE, bib, Option.bind_some, Option.map_some, List.getD_cons_zero, List.getD_cons_succ, List.set_cons_zero, List.set_cons_succ, List.map_cons, List.map_nil, List.length_cons, List.length_nil, List.replicate, List.cons_append, List.nil_append, if_true, if_false, Bool.false_eq_true, Nat.reduceSub, Nat.reduceAdd, Nat.reduceLeDiff, eN, re, fr_ends_of, flat_L]
  unfold wst
  simp only []
  rcases he : endsN l v with _ | ⟨x, _ | ⟨y, _ | ⟨z, r⟩⟩⟩
  · simp only [turnE_nx, turnE_cnt, rd_0, rd_o, rd_of, rd_s, gO_0, gO_s, gO2_0, gO2_s, bp_nm, bp_tp, bps_nil, bps_cons, bp_eP, v_var, v_int, v_bool, v_str, v_none, v_glb, v_op, v_ch, v_ch3, v_neg, v_not, v_and, v_or, v_b1, v_ife, v_tup, v_lst, v_idx, v_bi, v_call, v_callB, v_rev, v_cut, v_p0, v_p1, vs_nil, vs_cons, f_0, f_1, i_s, i_r1, i_r2, i_e, i_z, v_lc, v_lc2, v_ssc, v_ssc2, v_sst, v_lset, x_nil, x_cons, t_nx, t_brk, t_cnt, t_ret, x_asgF, x_asgT, x_asgp, x_par, sets_nil, sets_cons, x_app, x_ext, x_exp, x_own2, x_newT, x_ret, x_ite, x_for, x_whl, x_frz, fz_o, fz_o2, fz_v, e_rF, e_rT, e_nF, sq_l, sq_t, sx_l, sx_t, sl_l, sq_L, sx_L, sl_L, sq_Ps, sx_Ps, sl_Ps, sq_G, sx_G, sl_G, sx_P, ai, ab, at0, at1, p_add, p_sub, p_lt, p_le, p_gt, p_ge, p_isB, p_isnB, p_isN, p_isnN, y_len, y_lenT, y_lenL, y_lenPs, y_lenG, y_int, y_intB, y_abs, y_min2, y_max2, y_gcd, y_list, y_listL, y_listPs, y_all, wipeE, frE, bib, Option.bind_some, Option.map_some, List.getD_cons_zero, List.getD_cons_succ, List.set_cons_zero, List.set_cons_succ, List.map_cons, List.map_nil, List.length_cons, List.length_nil, List.replicate, List.cons_append, List.nil_append, if_true, if_false, Bool.false_eq_true, Nat.reduceSub, Nat.reduceAdd, Nat.reduceLeDiff]
    rfl
  · simp only [turnE_nx, turnE_cnt, rd_0, rd_o, rd_of, rd_s, gO_0, gO_s, gO2_0, gO2_s, bp_nm, bp_tp, bps_nil, bps_cons, bp_eP, v_var, v_int, v_bool, v_str, v_none, v_glb, v_op, v_ch, v_ch3, v_neg, v_not, v_and, v_or, v_b1, v_ife, v_tup, v_lst, v_idx, v_bi, v_call, v_callB, v_rev, v_cut, v_p0, v_p1, vs_nil, vs_cons, f_0, f_1, i_s, i_r1, i_r2, i_e, i_z, v_lc, v_lc2, v_ssc, v_ssc2, v_sst, v_lset, x_nil, x_cons, t_nx, t_brk, t_cnt, t_ret, x_asgF, x_asgT, x_asgp, x_par, sets_nil, sets_cons, x_app, x_ext, x_exp, x_own2, x_newT, x_ret, x_ite, x_for, x_whl, x_frz, fz_o, fz_o2, fz_v, e_rF, e_rT, e_nF, sq_l, sq_t, sx_l, sx_t, sl_l, sq_L, sx_L, sl_L, sq_Ps, sx_Ps, sl_Ps, sq_G, sx_G, sl_G, sx_P, ai, ab, at0, at1, p_add, p_sub, p_lt, p_le, p_gt, p_ge, p_isB, p_isnB, p_isN, p_isnN, y_len, y_lenT, y_lenL, y_lenPs, y_lenG, y_int, y_intB, y_abs, y_min2, y_max2, y_gcd, y_list, y_listL, y_listPs, y_all, wipeE, frE, bib, Option.bind_some, Option.map_some, List.getD_cons_zero, List.getD_cons_succ, List.set_cons_zero, List.set_cons_succ, List.map_cons, List.map_nil, List.length_cons, List.length_nil, List.replicate, List.cons_append, List.nil_append, if_true, if_false, Bool.false_eq_true, Nat.reduceSub, Nat.reduceAdd, Nat.reduceLeDiff, ov, List.length_map, if_lt (show (offN l v).length < 1000000 by omega), o_eqI]
    rfl
  · have hm : op2 .notIn (.tuple [.int ((min x y : Nat) : Int), .int ((max x y : Nat) : Int)]) (.list ((offN l v).map eP)) = some (.bool (!decide ((min x y, max x y) ∈ offN l v))) := o_ninPs (min x y, max x y) (offN l v)
    simp only [turnE_nx, turnE_cnt, rd_0, rd_o, rd_of, rd_s, gO_0, gO_s, gO2_0, gO2_s, bp_nm, bp_tp, bps_nil, bps_cons, bp_eP, v_var, v_int, v_bool, v_str, v_none, v_glb, v_op, v_ch, v_ch3, v_neg, v_not, v_and, v_or, v_b1, v_ife, v_tup, v_lst, v_idx, v_bi, v_call, v_callB, v_rev, v_cut, v_p0, v_p1, vs_nil, vs_cons, f_0, f_1, i_s, i_r1, i_r2, i_e, i_z, v_lc, v_lc2, v_ssc, v_ssc2, v_sst, v_lset, x_nil, x_cons, t_nx, t_brk, t_cnt, t_ret, x_asgF, x_asgT, x_asgp, x_par, sets_nil, sets_cons, x_app, x_ext, x_exp, x_own2, x_newT, x_ret, x_ite, x_for, x_whl, x_frz, fz_o, fz_o2, fz_v, e_rF, e_rT, e_nF, sq_l, sq_t, sx_l, sx_t, sl_l, sq_L, sx_L, sl_L, sq_Ps, sx_Ps, sl_Ps, sq_G, sx_G, sl_G, sx_P, ai, ab, at0, at1, p_add, p_sub, p_lt, p_le, p_gt, p_ge, p_isB, p_isnB, p_isN, p_isnN, y_len, y_lenT, y_lenL, y_lenPs, y_lenG, y_int, y_intB, y_abs, y_min2, y_max2, y_gcd, y_list, y_listL, y_listPs, y_all, wipeE, frE, bib, Option.bind_some, Option.map_some, List.getD_cons_zero, List.getD_cons_succ, List.set_cons_zero, List.set_cons_succ, List.map_cons, List.map_nil, List.length_cons, List.length_nil, List.replicate, List.cons_append, List.nil_append, if_true, if_false, Bool.false_eq_true, Nat.reduceSub, Nat.reduceAdd, Nat.reduceLeDiff, ov, List.length_map, if_lt (show (offN l v).length < 1000000 by omega), o_eqI]
    simp only [show decide ((1 : Int) ≤ ((2 : Nat) : Int)) = true by decide, show decide (((2 : Nat) : Int) ≤ 2) = true by decide, show decide (((2 : Nat) : Int) = 2) = true by decide, y_min1_2, y_max1_2, turnE_nx, turnE_cnt, rd_0, rd_o, rd_of, rd_s, gO_0, gO_s, gO2_0, gO2_s, bp_nm, bp_tp, bps_nil, bps_cons, bp_eP, v_var, v_int, v_bool, v_str, v_none, v_glb, v_op, v_ch, v_ch3, v_neg, v_not, v_and, v_or, v_b1, v_ife, v_tup, v_lst, v_idx, v_bi, v_call, v_callB, v_rev, v_cut, v_p0, v_p1, vs_nil, vs_cons, f_0, f_1, i_s, i_r1, i_r2, i_e, i_z, v_lc, v_lc2, v_ssc, v_ssc2, v_sst, v_lset, x_nil, x_cons, t_nx, t_brk, t_cnt, t_ret, x_asgF, x_asgT, x_asgp, x_par, sets_nil, sets_cons, x_app, x_ext, x_exp, x_own2, x_newT, x_ret, x_ite, x_for, x_whl, x_frz, fz_o, fz_o2, fz_v, e_rF, e_rT, e_nF, sq_l, sq_t, sx_l, sx_t, sl_l, sq_L, sx_L, sl_L, sq_Ps, sx_Ps, sl_Ps, sq_G, sx_G, sl_G, sx_P, ai, ab, at0, at1, p_add, p_sub, p_lt, p_le, p_gt, p_ge, p_isB, p_isnB, p_isN, p_isnN, y_len, y_lenT, y_lenL, y_lenPs, y_lenG, y_int, y_intB, y_abs, y_min2, y_max2, y_gcd, y_list, y_listL, y_listPs, y_all, wipeE, frE, bib, Option.bind_some, Option.map_some, List.getD_cons_zero, List.getD_cons_succ, List.set_cons_zero, List.set_cons_succ, List.map_cons, List.map_nil, List.length_cons, List.length_nil, List.replicate, List.cons_append, List.nil_append, if_true, if_false, Bool.false_eq_true, Nat.reduceSub, Nat.reduceAdd, Nat.reduceLeDiff, if_le (show 2 < 1000000 by decide), hm]
    by_cases hq : (min x y, max x y) ∈ offN l v
    · simp only [decide_eq_true hq, Bool.not_true, turnE_nx, turnE_cnt, rd_0, rd_o, rd_of, rd_s, gO_0, gO_s, gO2_0, gO2_s, bp_nm, bp_tp, bps_nil, bps_cons, bp_eP, v_var, v_int, v_bool, v_str, v_none, v_glb, v_op, v_ch, v_ch3, v_neg, v_not, v_and, v_or, v_b1, v_ife, v_tup, v_lst, v_idx, v_bi, v_call, v_callB, v_rev, v_cut, v_p0, v_p1, vs_nil, vs_cons, f_0, f_1, i_s, i_r1, i_r2, i_e, i_z, v_lc, v_lc2, v_ssc, v_ssc2, v_sst, v_lset, x_nil, x_cons, t_nx, t_brk, t_cnt, t_ret, x_asgF, x_asgT, x_asgp, x_par, sets_nil, sets_cons, x_app, x_ext, x_exp, x_own2, x_newT, x_ret, x_ite, x_for, x_whl, x_frz, fz_o, fz_o2, fz_v, e_rF, e_rT, e_nF, sq_l, sq_t, sx_l, sx_t, sl_l, sq_L, sx_L, sl_L, sq_Ps, sx_Ps, sl_Ps, sq_G, sx_G, sl_G, sx_P, ai, ab, at0, at1, p_add, p_sub, p_lt, p_le, p_gt, p_ge, p_isB, p_isnB, p_isN, p_isnN, y_len, y_lenT, y_lenL, y_lenPs, y_lenG, y_int, y_intB, y_abs, y_min2, y_max2, y_gcd, y_list, y_listL, y_listPs, y_all, wipeE, frE, bib, Option.bind_some, Option.map_some, List.getD_cons_zero, List.getD_cons_succ, List.set_cons_zero, List.set_cons_succ, List.map_cons, List.map_nil, List.length_cons, List.length_nil, List.replicate, List.cons_append, List.nil_append, if_true, if_false, Bool.false_eq_true, Nat.reduceSub, Nat.reduceAdd, Nat.reduceLeDiff, if_pos hq]
    · simp only [decide_eq_false hq, Bool.not_false, turnE_nx, turnE_cnt, rd_0, rd_o, rd_of, rd_s, gO_0, gO_s, gO2_0, gO2_s, bp_nm, bp_tp, bps_nil, bps_cons, bp_eP, v_var, v_int, v_bool, v_str, v_none, v_glb, v_op, v_ch, v_ch3, v_neg, v_not, v_and, v_or, v_b1, v_ife, v_tup, v_lst, v_idx, v_bi, v_call, v_callB, v_rev, v_cut, v_p0, v_p1, vs_nil, vs_cons, f_0, f_1, i_s, i_r1, i_r2, i_e, i_z, v_lc, v_lc2, v_ssc, v_ssc2, v_sst, v_lset, x_nil, x_cons, t_nx, t_brk, t_cnt, t_ret, x_asgF, x_asgT, x_asgp, x_par, sets_nil, sets_cons, x_app, x_ext, x_exp, x_own2, x_newT, x_ret, x_ite, x_for, x_whl, x_frz, fz_o, fz_o2, fz_v, e_rF, e_rT, e_nF, sq_l, sq_t, sx_l, sx_t, sl_l, sq_L, sx_L, sl_L, sq_Ps, sx_Ps, sl_Ps, sq_G, sx_G, sl_G, sx_P, ai, ab, at0, at1, p_add, p_sub, p_lt, p_le, p_gt, p_ge, p_isB, p_isnB, p_isN, p_isnN, y_len, y_lenT, y_lenL, y_lenPs, y_lenG, y_int, y_intB, y_abs, y_min2, y_max2, y_gcd, y_list, y_listL, y_listPs, y_all, wipeE, frE, bib, Option.bind_some, Option.map_some, List.getD_cons_zero, List.getD_cons_succ, List.set_cons_zero, List.set_cons_succ, List.map_cons, List.map_nil, List.length_cons, List.length_nil, List.replicate, List.cons_append, List.nil_append, if_true, if_false, Bool.false_eq_true, Nat.reduceSub, Nat.reduceAdd, Nat.reduceLeDiff, if_neg hq, List.length_map, if_lt (show (offN l v).length < 1000000 by omega), List.map_append]
      rfl
  · simp only [turnE_nx, turnE_cnt, rd_0, rd_o, rd_of, rd_s, gO_0, gO_s, gO2_0, gO2_s, bp_nm, bp_tp, bps_nil, bps_cons, bp_eP, v_var, v_int, v_bool, v_str, v_none, v_glb, v_op, v_ch, v_ch3, v_neg, v_not, v_and, v_or, v_b1, v_ife, v_tup, v_lst, v_idx, v_bi, v_call, v_callB, v_rev, v_cut, v_p0, v_p1, vs_nil, vs_cons, f_0, f_1, i_s, i_r1, i_r2, i_e, i_z, v_lc, v_lc2, v_ssc, v_ssc2, v_sst, v_lset, x_nil, x_cons, t_nx, t_brk, t_cnt, t_ret, x_asgF, x_asgT, x_asgp, x_par, sets_nil, sets_cons, x_app, x_ext, x_exp, x_own2, x_newT, x_ret, x_ite, x_for, x_whl, x_frz, fz_o, fz_o2, fz_v, e_rF, e_rT, e_nF, sq_l, sq_t, sx_l, sx_t, sl_l, sq_L, sx_L, sl_L, sq_Ps, sx_Ps, sl_Ps, sq_G, sx_G, sl_G, sx_P, ai, ab, at0, at1, p_add, p_sub, p_lt, p_le, p_gt, p_ge, p_isB, p_isnB, p_isN, p_isnN, y_len, y_lenT, y_lenL, y_lenPs, y_lenG, y_int, y_intB, y_abs, y_min2, y_max2, y_gcd, y_list, y_listL, y_listPs, y_all, wipeE, frE, bib, Option.bind_some, Option.map_some, List.getD_cons_zero, List.getD_cons_succ, List.set_cons_zero, List.set_cons_succ, List.map_cons, List.map_nil, List.length_cons, List.length_nil, List.replicate, List.cons_append, List.nil_append, if_true, if_false, Bool.false_eq_true, Nat.reduceSub, Nat.reduceAdd, Nat.reduceLeDiff]
    simp only [show decide ((1 : Int) ≤ ((r.length + 1 + 1 + 1 : Nat) : Int)) = true from decide_eq_true (by omega), show decide (((r.length + 1 + 1 + 1 : Nat) : Int) ≤ 2) = false from decide_eq_false (by omega), turnE_nx, turnE_cnt, rd_0, rd_o, rd_of, rd_s, gO_0, gO_s, gO2_0, gO2_s, bp_nm, bp_tp, bps_nil, bps_cons, bp_eP, v_var, v_int, v_bool, v_str, v_none, v_glb, v_op, v_ch, v_ch3, v_neg, v_not, v_and, v_or, v_b1, v_ife, v_tup, v_lst, v_idx, v_bi, v_call, v_callB, v_rev, v_cut, v_p0, v_p1, vs_nil, vs_cons, f_0, f_1, i_s, i_r1, i_r2, i_e, i_z, v_lc, v_lc2, v_ssc, v_ssc2, v_sst, v_lset, x_nil, x_cons, t_nx, t_brk, t_cnt, t_ret, x_asgF, x_asgT, x_asgp, x_par, sets_nil, sets_cons, x_app, x_ext, x_exp, x_own2, x_newT, x_ret, x_ite, x_for, x_whl, x_frz, fz_o, fz_o2, fz_v, e_rF, e_rT, e_nF, sq_l, sq_t, sx_l, sx_t, sl_l, sq_L, sx_L, sl_L, sq_Ps, sx_Ps, sl_Ps, sq_G, sx_G, sl_G, sx_P, ai, ab, at0, at1, p_add, p_sub, p_lt, p_le, p_gt, p_ge, p_isB, p_isnB, p_isN, p_isnN, y_len, y_lenT, y_lenL, y_lenPs, y_lenG, y_int, y_intB, y_abs, y_min2, y_max2, y_gcd, y_list, y_listL, y_listPs, y_all, wipeE, frE, bib, Option.bind_some, Option.map_some, List.getD_cons_zero, List.getD_cons_succ, List.set_cons_zero, List.set_cons_succ, List.map_cons, List.map_nil, List.length_cons, List.length_nil, List.replicate, List.cons_append, List.nil_append, if_true, if_false, Bool.false_eq_true, Nat.reduceSub, Nat.reduceAdd, Nat.reduceLeDiff]
theorem r_worn (N k : Nat) (ps : List (Nat × Nat)) (hl : ps.length ≤ 30) (b : Bool) (hw : wornM N ps = some b) : cal (tabOf fds) N (k + 2) "worn" [ePs ps] = some (.bool b) := by
  rw [c_worn _ _ _ rfl, b_worn]
  unfold wornM at hw
  obtain ⟨s', hs, rfl⟩ := Option.map_eq_some_iff.mp hw
  have wl := fun c f hc hf => whlGo_m c f [3, 5] (fun s : List (Nat × Nat) × Bool => [.val (ePs ps), .own (s.1.map eP), .val (.bool s.2), .no, .no, .no]) (fun s => s.2) wround (fun s => s.1.length ≤ 30) hc hf N (ps, true) s' hl hs
  simp only [turnE_nx, turnE_cnt, rd_0, rd_o, rd_of, rd_s, gO_0, gO_s, gO2_0, gO2_s, bp_nm, bp_tp, bps_nil, bps_cons, bp_eP, v_var, v_int, v_bool, v_str, v_none, v_glb, v_op, v_ch, v_ch3, v_neg, v_not, v_and, v_or, v_b1, v_ife, v_tup, v_lst, v_idx, v_bi, v_call, v_callB, v_rev, v_cut, v_p0, v_p1, vs_nil, vs_cons, f_0, f_1, i_s, i_r1, i_r2, i_e, i_z, v_lc, v_lc2, v_ssc, v_ssc2, v_sst, v_lset, x_nil, x_cons, t_nx, t_brk, t_cnt, t_ret, x_asgF, x_asgT, x_asgp, x_par, sets_nil, sets_cons, x_app, x_ext, x_exp, x_own2, x_newT, x_ret, x_ite, x_for, x_whl, x_frz, fz_o, fz_o2, fz_v, e_rF, e_rT, e_nF, sq_l, sq_t, sx_l, sx_t, sl_l, sq_L, sx_L, sl_L, sq_Ps, sx_Ps, sl_Ps, sq_G, sx_G, sl_G, sx_P, ai, ab, at0, at1, p_add, p_sub, p_lt, p_le, p_gt, p_ge, p_isB, p_isnB, p_isN, p_isnN, y_len, y_lenT, y_lenL, y_lenPs, y_lenG, y_int, y_intB, y_abs, y_min2, y_max2, y_gcd, y_list, y_listL, y_listPs, y_all, wipeE, frE, bib, Option.bind_some, Option.map_some, List.getD_cons_zero, List.getD_cons_succ, List.set_cons_zero, List.set_cons_succ, List.map_cons, List.map_nil, List.length_cons, List.length_nil, List.replicate, List.cons_append, List.nil_append, if_true, if_false, Bool.false_eq_true, Nat.reduceSub, Nat.reduceAdd, Nat.reduceLeDiff]
  rw [(wl _ _ ?_ ?_).1]
  · simp only [turnE_nx, turnE_cnt, rd_0, rd_o, rd_of, rd_s, gO_0, gO_s, gO2_0, gO2_s, bp_nm, bp_tp, bps_nil, bps_cons, bp_eP, v_var, v_int, v_bool, v_str, v_none, v_glb, v_op, v_ch, v_ch3, v_neg, v_not, v_and, v_or, v_b1, v_ife, v_tup, v_lst, v_idx, v_bi, v_call, v_callB, v_rev, v_cut, v_p0, v_p1, vs_nil, vs_cons, f_0, f_1, i_s, i_r1, i_r2, i_e, i_z, v_lc, v_lc2, v_ssc, v_ssc2, v_sst, v_lset, x_nil, x_cons, t_nx, t_brk, t_cnt, t_ret, x_asgF, x_asgT, x_asgp, x_par, sets_nil, sets_cons, x_app, x_ext, x_exp, x_own2, x_newT, x_ret, x_ite, x_for, x_whl, x_frz, fz_o, fz_o2, fz_v, e_rF, e_rT, e_nF, sq_l, sq_t, sx_l, sx_t, sl_l, sq_L, sx_L, sl_L, sq_Ps, sx_Ps, sl_Ps, sq_G, sx_G, sl_G, sx_P, ai, ab, at0, at1, p_add, p_sub, p_lt, p_le, p_gt, p_ge, p_isB, p_isnB, p_isN, p_isnN, y_len, y_lenT, y_lenL, y_lenPs, y_lenG, y_int, y_intB, y_abs, y_min2, y_max2, y_gcd, y_list, y_listL, y_listPs, y_all, wipeE, frE, bib, Option.bind_some, Option.map_some, List.getD_cons_zero, List.getD_cons_succ, List.set_cons_zero, List.set_cons_succ, List.map_cons, List.map_nil, List.length_cons, List.length_nil, List.replicate, List.cons_append, List.nil_append, if_true, if_false, Bool.false_eq_true, Nat.reduceSub, Nat.reduceAdd, Nat.reduceLeDiff, o_eqI, List.length_map]
    cases s'.1 with
    | nil => rfl
    | cons a r => rw [List.length_cons, decide_eq_false (by omega)]; rfl
  · intro s _
    simp only [turnE_nx, turnE_cnt, rd_0, rd_o, rd_of, rd_s, gO_0, gO_s, gO2_0, gO2_s, bp_nm, bp_tp, bps_nil, bps_cons, bp_eP, v_var, v_int, v_bool, v_str, v_none, v_glb, v_op, v_ch, v_ch3, v_neg, v_not, v_and, v_or, v_b1, v_ife, v_tup, v_lst, v_idx, v_bi, v_call, v_callB, v_rev, v_cut, v_p0, v_p1, vs_nil, vs_cons, f_0, f_1, i_s, i_r1, i_r2, i_e, i_z, v_lc, v_lc2, v_ssc, v_ssc2, v_sst, v_lset, x_nil, x_cons, t_nx, t_brk, t_cnt, t_ret, x_asgF, x_asgT, x_asgp, x_par, sets_nil, sets_cons, x_app, x_ext, x_exp, x_own2, x_newT, x_ret, x_ite, x_for, x_whl, x_frz, fz_o, fz_o2, fz_v, e_rF, e_rT, e_nF, sq_l, sq_t, sx_l, sx_t, sl_l, sq_L, sx_L, sl_L, sq_Ps, sx_Ps, sl_Ps, sq_G, sx_G, sl_G, sx_P, ai, ab, at0, at1, p_add, p_sub, p_lt, p_le, p_gt, p_ge, p_isB, p_isnB, p_isN, p_isnN, y_len, y_lenT, y_lenL, y_lenPs, y_lenG, y_int, y_intB, y_abs, y_min2, y_max2, y_gcd, y_list, y_listL, y_listPs, y_all, wipeE, frE, bib, Option.bind_some, Option.map_some, List.getD_cons_zero, List.getD_cons_succ, List.set_cons_zero, List.set_cons_succ, List.map_cons, List.map_nil, List.length_cons, List.length_nil, List.replicate, List.cons_append, List.nil_append, if_true, if_false, Bool.false_eq_true, Nat.reduceSub, Nat.reduceAdd, Nat.reduceLeDiff]
  · intro s hs _
    obtain ⟨l, g⟩ := s
    have hl' : l.length ≤ 30 := hs
    have hf2 := flat2_len l
    have hn : (dedupN (l.flatMap fun p => [p.1, p.2])).length < 64 := by
      have h1 := dedupN_le (l.flatMap fun p => [p.1, p.2])
      omega
    have h3 : (l.flatMap fun p => [p.1, p.2]).length < 1000 := by omega
    have nv := fun e2 => nodes_ev N (k + 1) l (.val (ePs ps)) (.own (l.map eP)) e2 .no .no
    dsimp only
    simp only [turnE_nx, turnE_cnt, rd_0, rd_o, rd_of, rd_s, gO_0, gO_s, gO2_0, gO2_s, bp_nm, bp_tp, bps_nil, bps_cons, bp_eP, v_var, v_int, v_bool, v_str, v_none, v_glb, v_op, v_ch, v_ch3, v_neg, v_not, v_and, v_or, v_b1, v_ife, v_tup, v_lst, v_idx, v_bi, v_call, v_callB, v_rev, v_cut, v_p0, v_p1, vs_nil, vs_cons, f_0, f_1, i_s, i_r1, i_r2, i_e, i_z, v_lc, v_lc2, v_ssc, v_ssc2, v_sst, v_lset, x_nil, x_cons, t_nx, t_brk, t_cnt, t_ret, x_asgF, x_asgT, x_asgp, x_par, sets_nil, sets_cons, x_app, x_ext, x_exp, x_own2, x_newT, x_ret, x_ite, x_for, x_whl, x_frz, fz_o, fz_o2, fz_v, e_rF, e_rT, e_nF, sq_l, sq_t, sx_l, sx_t, sl_l, sq_L, sx_L, sl_L, sq_Ps, sx_Ps, sl_Ps, sq_G, sx_G, sl_G, sx_P, ai, ab, at0, at1, p_add, p_sub, p_lt, p_le, p_gt, p_ge, p_isB, p_isnB, p_isN, p_isnN, y_len, y_lenT, y_lenL, y_lenPs, y_lenG, y_int, y_intB, y_abs, y_min2, y_max2, y_gcd, y_list, y_listL, y_listPs, y_all, wipeE, frE, bib, Option.bind_some, Option.map_some, List.getD_cons_zero, List.getD_cons_succ, List.set_cons_zero, List.set_cons_succ, List.map_cons, List.map_nil, List.length_cons, List.length_nil, List.replicate, List.cons_append, List.nil_append, if_true, if_false, Bool.false_eq_true, Nat.reduceSub, Nat.reduceAdd, Nat.reduceLeDiff, nv, List.length_map, if_pos h3, setI_N _ hn]
    have fl := fun f hf => forGo_i f [3, 5] eN (fun s : List (Nat × Nat) × Bool => [.val (ePs ps), .own (s.1.map eP), .val (.bool s.2), .no, .no, .no]) wst (fun s => s.1.length ≤ 30) (nodesN l) (l, false) hl' hf
    unfold nodesN at fl
    dsimp only at fl
    rw [(fl _ ?_).1]
    · simp only [turnE_nx, turnE_cnt, rd_0, rd_o, rd_of, rd_s, gO_0, gO_s, gO2_0, gO2_s, bp_nm, bp_tp, bps_nil, bps_cons, bp_eP, v_var, v_int, v_bool, v_str, v_none, v_glb, v_op, v_ch, v_ch3, v_neg, v_not, v_and, v_or, v_b1, v_ife, v_tup, v_lst, v_idx, v_bi, v_call, v_callB, v_rev, v_cut, v_p0, v_p1, vs_nil, vs_cons, f_0, f_1, i_s, i_r1, i_r2, i_e, i_z, v_lc, v_lc2, v_ssc, v_ssc2, v_sst, v_lset, x_nil, x_cons, t_nx, t_brk, t_cnt, t_ret, x_asgF, x_asgT, x_asgp, x_par, sets_nil, sets_cons, x_app, x_ext, x_exp, x_own2, x_newT, x_ret, x_ite, x_for, x_whl, x_frz, fz_o, fz_o2, fz_v, e_rF, e_rT, e_nF, sq_l, sq_t, sx_l, sx_t, sl_l, sq_L, sx_L, sl_L, sq_Ps, sx_Ps, sl_Ps, sq_G, sx_G, sl_G, sx_P, ai, ab, at0, at1, p_add, p_sub, p_lt, p_le, p_gt, p_ge, p_isB, p_isnB, p_isN, p_isnN, y_len, y_lenT, y_lenL, y_lenPs, y_lenG, y_int, y_intB, y_abs, y_min2, y_max2, y_gcd, y_list, y_listL, y_listPs, y_all, wipeE, frE, bib, Option.bind_some, Option.map_some, List.getD_cons_zero, List.getD_cons_succ, List.set_cons_zero, List.set_cons_succ, List.map_cons, List.map_nil, List.length_cons, List.length_nil, List.replicate, List.cons_append, List.nil_append, if_true, if_false, Bool.false_eq_true, Nat.reduceSub, Nat.reduceAdd, Nat.reduceLeDiff]
      exact ⟨rfl, Nat.le_trans (round_len _ _) hl'⟩
    · intro s v _ hs2
      refine ⟨?_, Nat.le_trans (wst_len s v) hs2⟩
      have wt := worn_turn N k ps s.1 s.2 v (by omega)
      simp only [turnE_nx, turnE_cnt, rd_0, rd_o, rd_of, rd_s, gO_0, gO_s, gO2_0, gO2_s, bp_nm, bp_tp, bps_nil, bps_cons, bp_eP, v_var, v_int, v_bool, v_str, v_none, v_glb, v_op, v_ch, v_ch3, v_neg, v_not, v_and, v_or, v_b1, v_ife, v_tup, v_lst, v_idx, v_bi, v_call, v_callB, v_rev, v_cut, v_p0, v_p1, vs_nil, vs_cons, f_0, f_1, i_s, i_r1, i_r2, i_e, i_z, v_lc, v_lc2, v_ssc, v_ssc2, v_sst, v_lset, x_nil, x_cons, t_nx, t_brk, t_cnt, t_ret, x_asgF, x_asgT, x_asgp, x_par, sets_nil, sets_cons, x_app, x_ext, x_exp, x_own2, x_newT, x_ret, x_ite, x_for, x_whl, x_frz, fz_o, fz_o2, fz_v, e_rF, e_rT, e_nF, sq_l, sq_t, sx_l, sx_t, sl_l, sq_L, sx_L, sl_L, sq_Ps, sx_Ps, sl_Ps, sq_G, sx_G, sl_G, sx_P, ai, ab, at0, at1, p_add, p_sub, p_lt, p_le, p_gt, p_ge, p_isB, p_isnB, p_isN, p_isnN, y_len, y_lenT, y_lenL, y_lenPs, y_lenG, y_int, y_intB, y_abs, y_min2, y_max2, y_gcd, y_list, y_listL, y_listPs, y_all, wipeE, frE, bib, Option.bind_some, Option.map_some, List.getD_cons_zero, List.getD_cons_succ, List.set_cons_zero, List.set_cons_succ, List.map_cons, List.map_nil, List.length_cons, List.length_nil, List.replicate, List.cons_append, List.nil_append, if_true, if_false, Bool.false_eq_true, Nat.reduceSub, Nat.reduceAdd, Nat.reduceLeDiff] at wt ⊢
      exact wt
end K19

set_option Elab.async false
set_option linter.all false
set_option maxRecDepth 100000
set_option maxHeartbeats 4000000
namespace K19
open PySem Pv
theorem insP_len (x : Nat × Nat) : ∀ l, (insP x l).length = l.length + 1
  | [] => rfl
  | y :: r => by
    unfold insP
    split
    · rfl
    · rw [List.length_cons, insP_len x r]; rfl
theorem sortP_len : ∀ l : List (Nat × Nat), (sortP l).length = l.length
  | [] => rfl
  | x :: r => by unfold sortP; rw [insP_len, sortP_len r]; rfl
theorem keys_len (gs : List (List Nat)) : ∀ (ps ks : List (Nat × Nat)), (ps.foldl (stP gs) ks).length ≤ ks.length + ps.length
  | [], ks => Nat.le_refl _
  | p :: ps, ks => by
    have h1 : (stP gs ks p).length ≤ ks.length + 1 := by
      unfold stP
      split
      · exact putN_len _ _
      · omega
    have h2 := keys_len gs ps (stP gs ks p)
    rw [List.foldl_cons, List.length_cons]
    omega
theorem pof_len (gs : List (List Nat)) (ps : List (Nat × Nat)) : (pof gs ps).length ≤ ps.length := by
  unfold pof
  rw [sortP_len]
  have := keys_len gs ps []
  show (ps.foldl (stP gs) []).length ≤ _
  simpa using this
def singles (n : Nat) : List (List Nat) := (List.range n).map fun v => [v]
theorem rng_ok {n : Nat} (h : n < 1000000) : rngOk (n : Int) = true := by
  rw [rngOk_iff]; omega
theorem lc_one {N k n : Nat} (e0 : Ent) : lcGo (elOf (CG N k) [e0, .no] (.lst (.cons (.var 1) .nil)) (.nm 1) .nil [1]) ((List.range n).map eN) = some ((singles n).map eL) := by
  refine lcGo_map _ eN eL (fun v => [v]) (List.range n) fun v _ => ?_
  simp (implicitDefEqProofs := false) only [elOf, turnE_nx, turnE_cnt, rd_0, rd_o, rd_of, rd_s, gO_0, gO_s, gO2_0, gO2_s, bp_nm, bp_tp, bps_nil, bps_cons, bp_eP, v_var, v_int, v_bool, v_str, v_none, v_glb, v_op, v_ch, v_ch3, v_neg, v_not, v_and, v_or, v_b1, v_ife, v_tup, v_lst, v_idx, v_bi, v_call, v_callB, v_rev, v_cut, v_p0, v_p1, vs_nil, vs_cons, f_0, f_1, i_s, i_r1, i_r2, i_e, i_z, v_lc, v_lc2, v_ssc, v_ssc2, v_sst, v_lset, x_nil, x_cons, t_nx, t_brk, t_cnt, t_ret, x_asgF, x_asgT, x_asgp, x_par, sets_nil, sets_cons, x_app, x_ext, x_exp, x_own2, x_newT, x_ret, x_ite, x_for, x_whl, x_frz, fz_o, fz_o2, fz_v, e_rF, e_rT, e_nF, sq_l, sq_t, sx_l, sx_t, sl_l, sq_L, sx_L, sl_L, sq_Ps, sx_Ps, sl_Ps, sq_G, sx_G, sl_G, sx_P, ai, ab, at0, at1, p_add, p_sub, p_lt, p_le, p_gt, p_ge, p_isB, p_isnB, p_isN, p_isnN, y_len, y_lenT, y_lenL, y_lenPs, y_lenG, y_int, y_intB, y_abs, y_min2, y_max2, y_gcd, y_list, y_listL, y_listPs, y_all, wipeE, frE, bib, Option.bind_some, Option.map_some, List.getD_cons_zero, List.getD_cons_succ, List.set_cons_zero, List.set_cons_succ, List.map_cons, List.map_nil, List.length_cons, List.length_nil, List.replicate, List.cons_append, List.nil_append, if_true, if_false, Bool.false_eq_true, Nat.reduceSub, Nat.reduceAdd, Nat.reduceLeDiff]
  rw [if_le (by decide)]
  rfl
theorem r_is_plain (N k n : Nat) (ps : List (Nat × Nat)) (h1 : 1 ≤ n) (h2 : n ≤ 8) (h3 : ps.length ≤ 14) (h4 : ∀ p ∈ ps, p.1 < p.2 ∧ p.2 < n) (b : Bool) (hw : wornM N (pof (singles n) ps) = some b) : cal (tabOf fds) N (k + 4) "is_plain" [gridD n ps] = some (.bool b) := by
  rw [c_is_plain _ _ _ rfl, b_is_plain]
  have hl := pof_len (singles n) ps
  have sl : (singles n).length = n := by unfold singles; rw [List.length_map, List.length_range]
  have r1 := r_check N k n ps h1 h2 h3 h4
  have r2 : cal (tabOf fds) N (k + 3) "lines_of" [gridD n ps] = some (ePs ps) := r_lines N (k + 2) n ps (by omega)
  have r3 : cal (tabOf fds) N (k + 3) "pairs_of" [.list ((singles n).map eL), ePs ps] = some (ePs (pof (singles n) ps)) := r_pairs_of N (k + 2) (singles n) ps (by omega) (by omega)
  have r4 := r_worn N (k + 1) (pof (singles n) ps) (by omega) b hw
  have sx : seqIx (gridD n ps) = some [.int n, .list (ps.zipIdx.map lineD)] := rfl
  have r5 : ∀ e0 : Ent, (lcGo (elOf (CG N (k + 3)) [e0, .no] (.lst (.cons (.var 1) .nil)) (.nm 1) .nil [1]) ((List.range n).map eN)).bind (fun ys => if ys.length < line then some (PyData.list ys) else none) = some (.list ((singles n).map eL)) := fun e0 => by
    rw [lc_one, Option.bind_some, if_lt (by rw [List.length_map, sl]; omega)]
  have hF : ∀ x, (CG N (k + 3)).Fr x = (tabOf fds).frs x := fun _ => rfl
  revert r1 r2 r3 r4 r5 hF
  show _ → _ → _ → (cal (tabOf fds) N (k + 3) "worn" [ePs (pof (singles n) ps)] = some (PyData.bool b)) → _ → _ → _
  unfold CG
  generalize cal (tabOf fds) N (k + 3) = C
  intro r1 r2 r3 r4 r5 hF
  simp (implicitDefEqProofs := false) only [turnE_nx, turnE_cnt, rd_0, rd_o, rd_of, rd_s, gO_0, gO_s, gO2_0, gO2_s, bp_nm, bp_tp, bps_nil, bps_cons, bp_eP, v_var, v_int, v_bool, v_str, v_none, v_glb, v_op, v_ch, v_ch3, v_neg, v_not, v_and, v_or, v_b1, v_ife, v_tup, v_lst, v_idx, v_bi, v_call, v_callB, v_rev, v_cut, v_p0, v_p1, vs_nil, vs_cons, f_0, f_1, i_s, i_r1, i_r2, i_e, i_z, v_lc, v_lc2, v_ssc, v_ssc2, v_sst, v_lset, x_nil, x_cons, t_nx, t_brk, t_cnt, t_ret, x_asgF, x_asgT, x_asgp, x_par, sets_nil, sets_cons, x_app, x_ext, x_exp, x_own2, x_newT, x_ret, x_ite, x_for, x_whl, x_frz, fz_o, fz_o2, fz_v, e_rF, e_rT, e_nF, sq_l, sq_t, sx_l, sx_t, sl_l, sq_L, sx_L, sl_L, sq_Ps, sx_Ps, sl_Ps, sq_G, sx_G, sl_G, sx_P, ai, ab, at0, at1, p_add, p_sub, p_lt, p_le, p_gt, p_ge, p_isB, p_isnB, p_isN, p_isnN, y_len, y_lenT, y_lenL, y_lenPs, y_lenG, y_int, y_intB, y_abs, y_min2, y_max2, y_gcd, y_list, y_listL, y_listPs, y_all, wipeE, frE, bib, Option.bind_some, Option.map_some, List.getD_cons_zero, List.getD_cons_succ, List.set_cons_zero, List.set_cons_succ, List.map_cons, List.map_nil, List.length_cons, List.length_nil, List.replicate, List.cons_append, List.nil_append, if_true, if_false, Bool.false_eq_true, Nat.reduceSub, Nat.reduceAdd, Nat.reduceLeDiff, r1, sx, rng_ok (show n < 1000000 by omega), Int.toNat_natCast, rng_map, r5, r2, r3, r4]
def merged (gs : List (List Nat)) (p : Nat × Nat) : List (List Nat) := ((gs.zipIdx.filter fun q => !(decide (p.1 = q.2) || decide (p.2 = q.2))).map fun q => q.1) ++ [sortN (gs.getD p.1 [] ++ gs.getD p.2 [])]
def dropped (gs : List (List Nat)) (k : Nat) : List (List Nat) := gs.take k ++ gs.drop (k + 1)
def bad (N : Nat) (ps : List (Nat × Nat)) (t : List (List Nat)) : Option Bool := (wornM N (pof t ps)).map fun b => !b
def fewM (N : Nat) (gs : List (List Nat)) (ps : List (Nat × Nat)) : Option (List (List Nat)) := (fb (fun p => bad N ps (merged gs p)) (pof gs ps)).bind fun o => match o with
  | some p => some (merged gs p)
  | none => (fb (fun k => bad N ps (dropped gs k)) (List.range gs.length)).bind fun o => match o with
    | some k => some (dropped gs k)
    | none => some gs
theorem mg_ev (N k : Nat) (gs : List (List Nat)) (a b : Nat) (e0 e1 e4 e5 : Ent) : lcGo (elOf (CG N k) [e0, e1, .val (.int a), .val (.int b), e4, e5, .no, .no] (.var 7) (.tp (.cons (.nm 6) (.cons (.nm 7) .nil))) (.cons (.op .notIn (.var 6) (.tup (.cons (.var 2) (.cons (.var 3) .nil)))) .nil) [6, 7]) (enumD 0 (gs.map eL)) = some (((gs.zipIdx.filter fun q => !(decide (a = q.2) || decide (b = q.2))).map fun q => q.1).map eL) := by
  rw [enum_map, lcGo_fm _ _ eL (fun q => if (!(decide (a = q.2) || decide (b = q.2))) = true then some q.1 else none) _ fun q hq => ?_]
  · rw [fm_if (fun q : List Nat × Nat => (!(decide (a = q.2) || decide (b = q.2))) = true)]
    simp
  · simp (implicitDefEqProofs := false) only [elOf, turnE_nx, turnE_cnt, rd_0, rd_o, rd_of, rd_s, gO_0, gO_s, gO2_0, gO2_s, bp_nm, bp_tp, bps_nil, bps_cons, bp_eP, v_var, v_int, v_bool, v_str, v_none, v_glb, v_op, v_ch, v_ch3, v_neg, v_not, v_and, v_or, v_b1, v_ife, v_tup, v_lst, v_idx, v_bi, v_call, v_callB, v_rev, v_cut, v_p0, v_p1, vs_nil, vs_cons, f_0, f_1, i_s, i_r1, i_r2, i_e, i_z, v_lc, v_lc2, v_ssc, v_ssc2, v_sst, v_lset, x_nil, x_cons, t_nx, t_brk, t_cnt, t_ret, x_asgF, x_asgT, x_asgp, x_par, sets_nil, sets_cons, x_app, x_ext, x_exp, x_own2, x_newT, x_ret, x_ite, x_for, x_whl, x_frz, fz_o, fz_o2, fz_v, e_rF, e_rT, e_nF, sq_l, sq_t, sx_l, sx_t, sl_l, sq_L, sx_L, sl_L, sq_Ps, sx_Ps, sl_Ps, sq_G, sx_G, sl_G, sx_P, ai, ab, at0, at1, p_add, p_sub, p_lt, p_le, p_gt, p_ge, p_isB, p_isnB, p_isN, p_isnN, y_len, y_lenT, y_lenL, y_lenPs, y_lenG, y_int, y_intB, y_abs, y_min2, y_max2, y_gcd, y_list, y_listL, y_listPs, y_all, wipeE, frE, bib, Option.bind_some, Option.map_some, List.getD_cons_zero, List.getD_cons_succ, List.set_cons_zero, List.set_cons_succ, List.map_cons, List.map_nil, List.length_cons, List.length_nil, List.replicate, List.cons_append, List.nil_append, if_true, if_false, Bool.false_eq_true, Nat.reduceSub, Nat.reduceAdd, Nat.reduceLeDiff]
    rw [if_le (by decide)]
    simp (implicitDefEqProofs := false) only [turnE_nx, turnE_cnt, rd_0, rd_o, rd_of, rd_s, gO_0, gO_s, gO2_0, gO2_s, bp_nm, bp_tp, bps_nil, bps_cons, bp_eP, v_var, v_int, v_bool, v_str, v_none, v_glb, v_op, v_ch, v_ch3, v_neg, v_not, v_and, v_or, v_b1, v_ife, v_tup, v_lst, v_idx, v_bi, v_call, v_callB, v_rev, v_cut, v_p0, v_p1, vs_nil, vs_cons, f_0, f_1, i_s, i_r1, i_r2, i_e, i_z, v_lc, v_lc2, v_ssc, v_ssc2, v_sst, v_lset, x_nil, x_cons, t_nx, t_brk, t_cnt, t_ret, x_asgF, x_asgT, x_asgp, x_par, sets_nil, sets_cons, x_app, x_ext, x_exp, x_own2, x_newT, x_ret, x_ite, x_for, x_whl, x_frz, fz_o, fz_o2, fz_v, e_rF, e_rT, e_nF, sq_l, sq_t, sx_l, sx_t, sl_l, sq_L, sx_L, sl_L, sq_Ps, sx_Ps, sl_Ps, sq_G, sx_G, sl_G, sx_P, ai, ab, at0, at1, p_add, p_sub, p_lt, p_le, p_gt, p_ge, p_isB, p_isnB, p_isN, p_isnN, y_len, y_lenT, y_lenL, y_lenPs, y_lenG, y_int, y_intB, y_abs, y_min2, y_max2, y_gcd, y_list, y_listL, y_listPs, y_all, wipeE, frE, bib, Option.bind_some, Option.map_some, List.getD_cons_zero, List.getD_cons_succ, List.set_cons_zero, List.set_cons_succ, List.map_cons, List.map_nil, List.length_cons, List.length_nil, List.replicate, List.cons_append, List.nil_append, if_true, if_false, Bool.false_eq_true, Nat.reduceSub, Nat.reduceAdd, Nat.reduceLeDiff, show op2 .notIn (eN q.2) (.tuple [.int (a : Int), .int (b : Int)]) = _ from o_ninT q.2 a b]
    by_cases h1 : a = q.2 <;> by_cases h2 : b = q.2 <;> simp [h1, h2]
end K19

set_option Elab.async false
set_option linter.all false
set_option maxRecDepth 100000
set_option maxHeartbeats 4000000
namespace K19
open PySem Pv
theorem zip_ix {α : Type} : ∀ (l : List α) (s : Nat) (q : α × Nat), q ∈ l.zipIdx s → s ≤ q.2 ∧ q.2 < s + l.length
  | [], _, _, h => by cases h
  | a :: l, s, q, h => by
    rw [List.zipIdx_cons] at h
    rcases List.mem_cons.mp h with rfl | h
    · simp
    · have := zip_ix l (s + 1) q h
      rw [List.length_cons]; omega
theorem ix_lt {gs : List (List Nat)} {a j : Nat} (h : j ∈ ix gs a) : j < gs.length := by
  unfold ix at h
  obtain ⟨q, hq, rfl⟩ := List.mem_map.mp h
  have := zip_ix gs 0 q (List.mem_filter.mp hq).1
  omega
theorem lkey_lt {gs : List (List Nat)} {p k : Nat × Nat} (h : lkey gs p = some k) : k.1 < gs.length ∧ k.2 < gs.length := by
  unfold lkey at h
  split at h
  · rename_i x xs y ys h1 h2
    split at h
    · cases h
    · cases h
      have a1 := ix_lt (gs := gs) (a := p.1) (j := x) (by rw [h1]; exact List.mem_cons_self ..)
      have a2 := ix_lt (gs := gs) (a := p.2) (j := y) (by rw [h2]; exact List.mem_cons_self ..)
      simp only
      omega
  · cases h
theorem insP_mem (x y : Nat × Nat) : ∀ l, y ∈ insP x l ↔ y = x ∨ y ∈ l
  | [] => by simp [insP]
  | z :: r => by
    unfold insP
    split
    · simp
    · rw [List.mem_cons, insP_mem x y r, List.mem_cons]
      exact ⟨fun h => by rcases h with h | h | h <;> simp [h], fun h => by rcases h with h | h | h <;> simp [h]⟩
theorem sortP_mem (y : Nat × Nat) : ∀ l, y ∈ sortP l ↔ y ∈ l
  | [] => Iff.rfl
  | x :: r => by
    unfold sortP
    rw [insP_mem, sortP_mem y r, List.mem_cons]
theorem putN_mem (l : List (Nat × Nat)) (k y : Nat × Nat) : y ∈ putN l k ↔ y = k ∨ y ∈ l := by
  unfold putN
  split
  · rename_i h
    exact ⟨.inr, fun z => z.elim (fun e => e ▸ h) id⟩
  · simp [or_comm]
theorem keys_mem (gs : List (List Nat)) (y : Nat × Nat) : ∀ (ps ks : List (Nat × Nat)), y ∈ ps.foldl (stP gs) ks ↔ y ∈ ks ∨ ∃ p ∈ ps, lkey gs p = some y
  | [], ks => by simp
  | p :: ps, ks => by
    rw [List.foldl_cons, keys_mem gs y ps]
    unfold stP
    cases h : lkey gs p with
    | none =>
      simp only []
      constructor
      · rintro (h1 | ⟨q, hq, e⟩)
        · exact .inl h1
        · exact .inr ⟨q, List.mem_cons_of_mem _ hq, e⟩
      · rintro (h1 | ⟨q, hq, e⟩)
        · exact .inl h1
        · rcases List.mem_cons.mp hq with rfl | hq
          · rw [h] at e; cases e
          · exact .inr ⟨q, hq, e⟩
    | some k =>
      simp only [putN_mem]
      constructor
      · rintro ((h1 | h1) | ⟨q, hq, e⟩)
        · exact .inr ⟨p, List.mem_cons_self .., h1 ▸ h⟩
        · exact .inl h1
        · exact .inr ⟨q, List.mem_cons_of_mem _ hq, e⟩
      · rintro (h1 | ⟨q, hq, e⟩)
        · exact .inl (.inr h1)
        · rcases List.mem_cons.mp hq with rfl | hq
          · rw [h] at e; exact .inl (.inl (Option.some.inj e).symm)
          · exact .inr ⟨q, hq, e⟩
theorem pof_mem (gs : List (List Nat)) (ps : List (Nat × Nat)) (y : Nat × Nat) : y ∈ pof gs ps ↔ ∃ p ∈ ps, lkey gs p = some y := by
  unfold pof
  rw [sortP_mem]
  show y ∈ ps.foldl (stP gs) [] ↔ _
  rw [keys_mem]
  simp
theorem pof_lt {gs : List (List Nat)} {ps : List (Nat × Nat)} {y : Nat × Nat} (h : y ∈ pof gs ps) : y.1 < gs.length ∧ y.2 < gs.length := by
  obtain ⟨p, _, e⟩ := (pof_mem gs ps y).mp h
  exact lkey_lt e
theorem o_catL (l m : List Nat) : op2 .add (eL l) (eL m) = if l.length + m.length ≤ line then some (eL (l ++ m)) else none := by
  show (if (l.map eN).length + (m.map eN).length ≤ line then some (PyData.list (l.map eN ++ m.map eN)) else none) = _
  rw [List.length_map, List.length_map, ← List.map_append]; rfl
theorem o_catG (l m : List (List Nat)) : op2 .add (.list (l.map eL)) (.list (m.map eL)) = if l.length + m.length ≤ line then some (eG (l ++ m)) else none := by
  show (if (l.map eL).length + (m.map eL).length ≤ line then some (PyData.list (l.map eL ++ m.map eL)) else none) = _
  rw [List.length_map, List.length_map, ← List.map_append]; rfl
theorem at_G (gs : List (List Nat)) (i : Nat) (h : i < gs.length) : L2.atI (gs.map eL) ((i : Nat) : Int) = some (eL (gs.getD i [])) := at_map eL gs i (by rw [List.getD_eq_getElem?_getD, List.getElem?_eq_getElem h]; rfl)
theorem cut_to {α : Type} (e : α → D) (l : List α) (k : Nat) : cutD (l.map e) none (some (k : Int)) = (l.take k).map e := by
  unfold cutD HT.sIx
  simp only [List.length_map, List.drop_zero, Nat.sub_zero]
  rw [if_neg (by omega), Int.toNat_natCast, ← List.map_take]
  congr 1
  rw [Nat.min_def]
  split
  · rfl
  · rw [List.take_of_length_le (Nat.le_refl _), List.take_of_length_le (by omega)]
theorem cut_from {α : Type} (e : α → D) (l : List α) (k : Nat) : cutD (l.map e) (some (k : Int)) none = (l.drop k).map e := by
  unfold cutD HT.sIx
  simp only [List.length_map]
  rw [if_neg (by omega), Int.toNat_natCast, ← List.map_drop, ← List.map_take]
  congr 1
  rw [Nat.min_def]
  split
  · rw [List.take_of_length_le (by rw [List.length_drop]; exact Nat.le_refl _)]
  · rw [List.drop_of_length_le (Nat.le_refl _), List.drop_of_length_le (by omega)]
    simp
theorem merged_len {gs : List (List Nat)} {p : Nat × Nat} : (merged gs p).length ≤ gs.length + 1 := by
  unfold merged
  rw [List.length_append, List.length_map]
  have := List.length_filter_le (fun q : List Nat × Nat => !(decide (p.1 = q.2) || decide (p.2 = q.2))) gs.zipIdx
  rw [List.length_zipIdx] at this
  simp only [List.length_cons, List.length_nil]
  omega
theorem dropped_len {gs : List (List Nat)} {k : Nat} (h : k < gs.length) : (dropped gs k).length + 1 = gs.length := by
  unfold dropped
  rw [List.length_append, List.length_take, List.length_drop]
  omega
theorem bad_ev {N : Nat} {ps : List (Nat × Nat)} {t : List (List Nat)} {b : Bool} (h : bad N ps t = some b) : wornM N (pof t ps) = some (!b) := by
  unfold bad at h
  obtain ⟨c, h1, h2⟩ := Option.map_eq_some_iff.mp h
  rw [h1, ← h2, Bool.not_not]
theorem getD_len {gs : List (List Nat)} {m i : Nat} (h : ∀ g ∈ gs, g.length < m) (hm : 0 < m) : (gs.getD i []).length < m := by
  rw [List.getD_eq_getElem?_getD]
  cases e : gs[i]? with
  | none => exact hm
  | some g => exact h g (List.mem_of_getElem? e)
theorem o_catG1 (l : List (List Nat)) (x : List Nat) : op2 .add (.list (l.map eL)) (.list [eL x]) = if l.length + 1 ≤ line then some (eG (l ++ [x])) else none := o_catG l [x]
theorem r_fewer (N k : Nat) (gs : List (List Nat)) (ps : List (Nat × Nat)) (hg : gs.length < 90) (hm : ∀ g ∈ gs, g.length < 1000) (hp : ps.length ≤ 14) (r : List (List Nat)) (hr : fewM N gs ps = some r) : cal (tabOf fds) N (k + 3) "fewer" [eG gs, ePs ps] = some (eG r) := by
  rw [c_fewer _ _ _ rfl, b_fewer]
  have r3 : ∀ t : List (List Nat), t.length < 100 → cal (tabOf fds) N (k + 2) "pairs_of" [eG t, ePs ps] = some (ePs (pof t ps)) := fun t ht => r_pairs_of N (k + 1) t ps ht (by omega)
  have r4 : ∀ (t : List (List Nat)) (b : Bool), bad N ps t = some b → cal (tabOf fds) N (k + 2) "worn" [ePs (pof t ps)] = some (.bool (!b)) := fun t b h => r_worn N k (pof t ps) (by have := pof_len t ps; omega) _ (bad_ev h)
  have mg := fun a b e4 e5 => mg_ev N (k + 2) gs a b (.val (eG gs)) (.val (ePs ps)) e4 e5
  revert r3 r4 mg
  unfold CG
  generalize cal (tabOf fds) N (k + 2) = C
  intro r3 r4 mg
  unfold fewM at hr
  obtain ⟨o, h1, hr⟩ := Option.bind_eq_some_iff.mp hr
  have l1 := fun f a b => forGo_fb f [2, 3, 4, 5] eP [.val (eG gs), .val (ePs ps), .no, .no, .no, .no, .no, .no] (fun p => bad N ps (merged gs p)) (fun p => (.ret false (eG (merged gs p)), [.val (eG gs), .val (ePs ps), .val (.int p.1), .val (.int p.2), .val (eL (sortN (gs.getD p.1 [] ++ gs.getD p.2 []))), .val (eG (merged gs p)), .no, .no])) (fun p => ⟨_, _, rfl⟩) (pof gs ps) o a b h1
  simp (implicitDefEqProofs := false) only [turnE_nx, turnE_cnt, rd_0, rd_o, rd_of, rd_s, gO_0, gO_s, gO2_0, gO2_s, bp_nm, bp_tp, bps_nil, bps_cons, bp_eP, v_var, v_int, v_bool, v_str, v_none, v_glb, v_op, v_ch, v_ch3, v_neg, v_not, v_and, v_or, v_b1, v_ife, v_tup, v_lst, v_idx, v_bi, v_call, v_callB, v_rev, v_cut, v_p0, v_p1, vs_nil, vs_cons, f_0, f_1, i_s, i_r1, i_r2, i_e, i_z, v_lc, v_lc2, v_ssc, v_ssc2, v_sst, v_lset, x_nil, x_cons, t_nx, t_brk, t_cnt, t_ret, x_asgF, x_asgT, x_asgp, x_par, sets_nil, sets_cons, x_app, x_ext, x_exp, x_own2, x_newT, x_ret, x_ite, x_for, x_whl, x_frz, fz_o, fz_o2, fz_v, e_rF, e_rT, e_nF, sq_l, sq_t, sx_l, sx_t, sl_l, sq_L, sx_L, sl_L, sq_Ps, sx_Ps, sl_Ps, sq_G, sx_G, sl_G, sx_P, ai, ab, at0, at1, p_add, p_sub, p_lt, p_le, p_gt, p_ge, p_isB, p_isnB, p_isN, p_isnN, y_len, y_lenT, y_lenL, y_lenPs, y_lenG, y_int, y_intB, y_abs, y_min2, y_max2, y_gcd, y_list, y_listL, y_listPs, y_all, wipeE, frE, bib, Option.bind_some, Option.map_some, List.getD_cons_zero, List.getD_cons_succ, List.set_cons_zero, List.set_cons_succ, List.map_cons, List.map_nil, List.length_cons, List.length_nil, List.replicate, List.cons_append, List.nil_append, if_true, if_false, Bool.false_eq_true, Nat.reduceSub, Nat.reduceAdd, Nat.reduceLeDiff, r3 gs (by omega)]
  rw [l1]
  · cases o with
    | some p =>
      cases hr
      simp (implicitDefEqProofs := false) only [turnE_nx, turnE_cnt, rd_0, rd_o, rd_of, rd_s, gO_0, gO_s, gO2_0, gO2_s, bp_nm, bp_tp, bps_nil, bps_cons, bp_eP, v_var, v_int, v_bool, v_str, v_none, v_glb, v_op, v_ch, v_ch3, v_neg, v_not, v_and, v_or, v_b1, v_ife, v_tup, v_lst, v_idx, v_bi, v_call, v_callB, v_rev, v_cut, v_p0, v_p1, vs_nil, vs_cons, f_0, f_1, i_s, i_r1, i_r2, i_e, i_z, v_lc, v_lc2, v_ssc, v_ssc2, v_sst, v_lset, x_nil, x_cons, t_nx, t_brk, t_cnt, t_ret, x_asgF, x_asgT, x_asgp, x_par, sets_nil, sets_cons, x_app, x_ext, x_exp, x_own2, x_newT, x_ret, x_ite, x_for, x_whl, x_frz, fz_o, fz_o2, fz_v, e_rF, e_rT, e_nF, sq_l, sq_t, sx_l, sx_t, sl_l, sq_L, sx_L, sl_L, sq_Ps, sx_Ps, sl_Ps, sq_G, sx_G, sl_G, sx_P, ai, ab, at0, at1, p_add, p_sub, p_lt, p_le, p_gt, p_ge, p_isB, p_isnB, p_isN, p_isnN, y_len, y_lenT, y_lenL, y_lenPs, y_lenG, y_int, y_intB, y_abs, y_min2, y_max2, y_gcd, y_list, y_listL, y_listPs, y_all, wipeE, frE, bib, Option.bind_some, Option.map_some, List.getD_cons_zero, List.getD_cons_succ, List.set_cons_zero, List.set_cons_succ, List.map_cons, List.map_nil, List.length_cons, List.length_nil, List.replicate, List.cons_append, List.nil_append, if_true, if_false, Bool.false_eq_true, Nat.reduceSub, Nat.reduceAdd, Nat.reduceLeDiff]
    | none =>
      simp only [] at hr ⊢
      obtain ⟨o2, h2, hr⟩ := Option.bind_eq_some_iff.mp hr
      have l2 := fun f a b => forGo_fb f [6, 5] eN [.val (eG gs), .val (ePs ps), .no, .no, .no, .no, .no, .no] (fun j => bad N ps (dropped gs j)) (fun j => (.ret false (eG (dropped gs j)), [.val (eG gs), .val (ePs ps), .no, .no, .no, .val (eG (dropped gs j)), .val (.int j), .no])) (fun p => ⟨_, _, rfl⟩) (List.range gs.length) o2 a b h2
      simp (implicitDefEqProofs := false) only [turnE_nx, turnE_cnt, rd_0, rd_o, rd_of, rd_s, gO_0, gO_s, gO2_0, gO2_s, bp_nm, bp_tp, bps_nil, bps_cons, bp_eP, v_var, v_int, v_bool, v_str, v_none, v_glb, v_op, v_ch, v_ch3, v_neg, v_not, v_and, v_or, v_b1, v_ife, v_tup, v_lst, v_idx, v_bi, v_call, v_callB, v_rev, v_cut, v_p0, v_p1, vs_nil, vs_cons, f_0, f_1, i_s, i_r1, i_r2, i_e, i_z, v_lc, v_lc2, v_ssc, v_ssc2, v_sst, v_lset, x_nil, x_cons, t_nx, t_brk, t_cnt, t_ret, x_asgF, x_asgT, x_asgp, x_par, sets_nil, sets_cons, x_app, x_ext, x_exp, x_own2, x_newT, x_ret, x_ite, x_for, x_whl, x_frz, fz_o, fz_o2, fz_v, e_rF, e_rT, e_nF, sq_l, sq_t, sx_l, sx_t, sl_l, sq_L, sx_L, sl_L, sq_Ps, sx_Ps, sl_Ps, sq_G, sx_G, sl_G, sx_P, ai, ab, at0, at1, p_add, p_sub, p_lt, p_le, p_gt, p_ge, p_isB, p_isnB, p_isN, p_isnN, y_len, y_lenT, y_lenL, y_lenPs, y_lenG, y_int, y_intB, y_abs, y_min2, y_max2, y_gcd, y_list, y_listL, y_listPs, y_all, wipeE, frE, bib, Option.bind_some, Option.map_some, List.getD_cons_zero, List.getD_cons_succ, List.set_cons_zero, List.set_cons_succ, List.map_cons, List.map_nil, List.length_cons, List.length_nil, List.replicate, List.cons_append, List.nil_append, if_true, if_false, Bool.false_eq_true, Nat.reduceSub, Nat.reduceAdd, Nat.reduceLeDiff, List.length_map, rng_ok (show gs.length < 1000000 by omega), Int.toNat_natCast, rng_map]
      rw [l2]
      · cases o2 with
        | some p =>
          cases hr
          simp (implicitDefEqProofs := false) only [turnE_nx, turnE_cnt, rd_0, rd_o, rd_of, rd_s, gO_0, gO_s, gO2_0, gO2_s, bp_nm, bp_tp, bps_nil, bps_cons, bp_eP, v_var, v_int, v_bool, v_str, v_none, v_glb, v_op, v_ch, v_ch3, v_neg, v_not, v_and, v_or, v_b1, v_ife, v_tup, v_lst, v_idx, v_bi, v_call, v_callB, v_rev, v_cut, v_p0, v_p1, vs_nil, vs_cons, f_0, f_1, i_s, i_r1, i_r2, i_e, i_z, v_lc, v_lc2, v_ssc, v_ssc2, v_sst, v_lset, x_nil, x_cons, t_nx, t_brk, t_cnt, t_ret, x_asgF, x_asgT, x_asgp, x_par, sets_nil, sets_cons, x_app, x_ext, x_exp, x_own2, x_newT, x_ret, x_ite, x_for, x_whl, x_frz, fz_o, fz_o2, fz_v, e_rF, e_rT, e_nF, sq_l, sq_t, sx_l, sx_t, sl_l, sq_L, sx_L, sl_L, sq_Ps, sx_Ps, sl_Ps, sq_G, sx_G, sl_G, sx_P, ai, ab, at0, at1, p_add, p_sub, p_lt, p_le, p_gt, p_ge, p_isB, p_isnB, p_isN, p_isnN, y_len, y_lenT, y_lenL, y_lenPs, y_lenG, y_int, y_intB, y_abs, y_min2, y_max2, y_gcd, y_list, y_listL, y_listPs, y_all, wipeE, frE, bib, Option.bind_some, Option.map_some, List.getD_cons_zero, List.getD_cons_succ, List.set_cons_zero, List.set_cons_succ, List.map_cons, List.map_nil, List.length_cons, List.length_nil, List.replicate, List.cons_append, List.nil_append, if_true, if_false, Bool.false_eq_true, Nat.reduceSub, Nat.reduceAdd, Nat.reduceLeDiff]
        | none =>
          cases hr
          simp (implicitDefEqProofs := false) only [turnE_nx, turnE_cnt, rd_0, rd_o, rd_of, rd_s, gO_0, gO_s, gO2_0, gO2_s, bp_nm, bp_tp, bps_nil, bps_cons, bp_eP, v_var, v_int, v_bool, v_str, v_none, v_glb, v_op, v_ch, v_ch3, v_neg, v_not, v_and, v_or, v_b1, v_ife, v_tup, v_lst, v_idx, v_bi, v_call, v_callB, v_rev, v_cut, v_p0, v_p1, vs_nil, vs_cons, f_0, f_1, i_s, i_r1, i_r2, i_e, i_z, v_lc, v_lc2, v_ssc, v_ssc2, v_sst, v_lset, x_nil, x_cons, t_nx, t_brk, t_cnt, t_ret, x_asgF, x_asgT, x_asgp, x_par, sets_nil, sets_cons, x_app, x_ext, x_exp, x_own2, x_newT, x_ret, x_ite, x_for, x_whl, x_frz, fz_o, fz_o2, fz_v, e_rF, e_rT, e_nF, sq_l, sq_t, sx_l, sx_t, sl_l, sq_L, sx_L, sl_L, sq_Ps, sx_Ps, sl_Ps, sq_G, sx_G, sl_G, sx_P, ai, ab, at0, at1, p_add, p_sub, p_lt, p_le, p_gt, p_ge, p_isB, p_isnB, p_isN, p_isnN, y_len, y_lenT, y_lenL, y_lenPs, y_lenG, y_int, y_intB, y_abs, y_min2, y_max2, y_gcd, y_list, y_listL, y_listPs, y_all, wipeE, frE, bib, Option.bind_some, Option.map_some, List.getD_cons_zero, List.getD_cons_succ, List.set_cons_zero, List.set_cons_succ, List.map_cons, List.map_nil, List.length_cons, List.length_nil, List.replicate, List.cons_append, List.nil_append, if_true, if_false, Bool.false_eq_true, Nat.reduceSub, Nat.reduceAdd, Nat.reduceLeDiff]
      · intro j hj hw
        have hj' : j < gs.length := List.mem_range.mp hj
        have dl := dropped_len hj'
        have e3 := r3 (dropped gs j) (by omega)
        have e4 := r4 (dropped gs j) _ hw
        unfold dropped at e3 e4 dl ⊢
        have s1 : ((j : Int) + 1) = ((j + 1 : Nat) : Int) := rfl
        rw [List.length_append] at dl
        simp (implicitDefEqProofs := false) only [turnE_nx, turnE_cnt, rd_0, rd_o, rd_of, rd_s, gO_0, gO_s, gO2_0, gO2_s, bp_nm, bp_tp, bps_nil, bps_cons, bp_eP, v_var, v_int, v_bool, v_str, v_none, v_glb, v_op, v_ch, v_ch3, v_neg, v_not, v_and, v_or, v_b1, v_ife, v_tup, v_lst, v_idx, v_bi, v_call, v_callB, v_rev, v_cut, v_p0, v_p1, vs_nil, vs_cons, f_0, f_1, i_s, i_r1, i_r2, i_e, i_z, v_lc, v_lc2, v_ssc, v_ssc2, v_sst, v_lset, x_nil, x_cons, t_nx, t_brk, t_cnt, t_ret, x_asgF, x_asgT, x_asgp, x_par, sets_nil, sets_cons, x_app, x_ext, x_exp, x_own2, x_newT, x_ret, x_ite, x_for, x_whl, x_frz, fz_o, fz_o2, fz_v, e_rF, e_rT, e_nF, sq_l, sq_t, sx_l, sx_t, sl_l, sq_L, sx_L, sl_L, sq_Ps, sx_Ps, sl_Ps, sq_G, sx_G, sl_G, sx_P, ai, ab, at0, at1, p_add, p_sub, p_lt, p_le, p_gt, p_ge, p_isB, p_isnB, p_isN, p_isnN, y_len, y_lenT, y_lenL, y_lenPs, y_lenG, y_int, y_intB, y_abs, y_min2, y_max2, y_gcd, y_list, y_listL, y_listPs, y_all, wipeE, frE, bib, Option.bind_some, Option.map_some, List.getD_cons_zero, List.getD_cons_succ, List.set_cons_zero, List.set_cons_succ, List.map_cons, List.map_nil, List.length_cons, List.length_nil, List.replicate, List.cons_append, List.nil_append, if_true, if_false, Bool.false_eq_true, Nat.reduceSub, Nat.reduceAdd, Nat.reduceLeDiff, eN, cut_to, s1, cut_from, o_catG, if_le (show (gs.take j).length + (gs.drop (j + 1)).length < 1000000 by omega), e3, e4, Bool.not_true, Bool.not_false]
      · intro j hj hw
        have hj' : j < gs.length := List.mem_range.mp hj
        have dl := dropped_len hj'
        have e3 := r3 (dropped gs j) (by omega)
        have e4 := r4 (dropped gs j) _ hw
        unfold dropped at e3 e4 dl
        have s1 : ((j : Int) + 1) = ((j + 1 : Nat) : Int) := rfl
        rw [List.length_append] at dl
        simp (implicitDefEqProofs := false) only [turnE_nx, turnE_cnt, rd_0, rd_o, rd_of, rd_s, gO_0, gO_s, gO2_0, gO2_s, bp_nm, bp_tp, bps_nil, bps_cons, bp_eP, v_var, v_int, v_bool, v_str, v_none, v_glb, v_op, v_ch, v_ch3, v_neg, v_not, v_and, v_or, v_b1, v_ife, v_tup, v_lst, v_idx, v_bi, v_call, v_callB, v_rev, v_cut, v_p0, v_p1, vs_nil, vs_cons, f_0, f_1, i_s, i_r1, i_r2, i_e, i_z, v_lc, v_lc2, v_ssc, v_ssc2, v_sst, v_lset, x_nil, x_cons, t_nx, t_brk, t_cnt, t_ret, x_asgF, x_asgT, x_asgp, x_par, sets_nil, sets_cons, x_app, x_ext, x_exp, x_own2, x_newT, x_ret, x_ite, x_for, x_whl, x_frz, fz_o, fz_o2, fz_v, e_rF, e_rT, e_nF, sq_l, sq_t, sx_l, sx_t, sl_l, sq_L, sx_L, sl_L, sq_Ps, sx_Ps, sl_Ps, sq_G, sx_G, sl_G, sx_P, ai, ab, at0, at1, p_add, p_sub, p_lt, p_le, p_gt, p_ge, p_isB, p_isnB, p_isN, p_isnN, y_len, y_lenT, y_lenL, y_lenPs, y_lenG, y_int, y_intB, y_abs, y_min2, y_max2, y_gcd, y_list, y_listL, y_listPs, y_all, wipeE, frE, bib, Option.bind_some, Option.map_some, List.getD_cons_zero, List.getD_cons_succ, List.set_cons_zero, List.set_cons_succ, List.map_cons, List.map_nil, List.length_cons, List.length_nil, List.replicate, List.cons_append, List.nil_append, if_true, if_false, Bool.false_eq_true, Nat.reduceSub, Nat.reduceAdd, Nat.reduceLeDiff, eN, cut_to, s1, cut_from, o_catG, if_le (show (gs.take j).length + (gs.drop (j + 1)).length < 1000000 by omega), e3, e4, Bool.not_true, Bool.not_false]
  · intro p hp' hw
    obtain ⟨q1, q2⟩ := pof_lt hp'
    have g1 := getD_len (i := p.1) hm (by decide)
    have g2 := getD_len (i := p.2) hm (by decide)
    have ml := merged_len (gs := gs) (p := p)
    have fl : (gs.zipIdx.filter fun q => !(decide (p.1 = q.2) || decide (p.2 = q.2))).length ≤ gs.length := by
      have := List.length_filter_le (fun q : List Nat × Nat => !(decide (p.1 = q.2) || decide (p.2 = q.2))) gs.zipIdx
      rwa [List.length_zipIdx] at this
    simp (implicitDefEqProofs := false) only [turnE_nx, turnE_cnt, rd_0, rd_o, rd_of, rd_s, gO_0, gO_s, gO2_0, gO2_s, bp_nm, bp_tp, bps_nil, bps_cons, bp_eP, v_var, v_int, v_bool, v_str, v_none, v_glb, v_op, v_ch, v_ch3, v_neg, v_not, v_and, v_or, v_b1, v_ife, v_tup, v_lst, v_idx, v_bi, v_call, v_callB, v_rev, v_cut, v_p0, v_p1, vs_nil, vs_cons, f_0, f_1, i_s, i_r1, i_r2, i_e, i_z, v_lc, v_lc2, v_ssc, v_ssc2, v_sst, v_lset, x_nil, x_cons, t_nx, t_brk, t_cnt, t_ret, x_asgF, x_asgT, x_asgp, x_par, sets_nil, sets_cons, x_app, x_ext, x_exp, x_own2, x_newT, x_ret, x_ite, x_for, x_whl, x_frz, fz_o, fz_o2, fz_v, e_rF, e_rT, e_nF, sq_l, sq_t, sx_l, sx_t, sl_l, sq_L, sx_L, sl_L, sq_Ps, sx_Ps, sl_Ps, sq_G, sx_G, sl_G, sx_P, ai, ab, at0, at1, p_add, p_sub, p_lt, p_le, p_gt, p_ge, p_isB, p_isnB, p_isN, p_isnN, y_len, y_lenT, y_lenL, y_lenPs, y_lenG, y_int, y_intB, y_abs, y_min2, y_max2, y_gcd, y_list, y_listL, y_listPs, y_all, wipeE, frE, bib, Option.bind_some, Option.map_some, List.getD_cons_zero, List.getD_cons_succ, List.set_cons_zero, List.set_cons_succ, List.map_cons, List.map_nil, List.length_cons, List.length_nil, List.replicate, List.cons_append, List.nil_append, if_true, if_false, Bool.false_eq_true, Nat.reduceSub, Nat.reduceAdd, Nat.reduceLeDiff, at_G gs p.1 q1, at_G gs p.2 q2, o_catL, if_le (show (gs.getD p.1 []).length + (gs.getD p.2 []).length < 1000000 by omega), sorted_L]
    rw [mg]
    simp (implicitDefEqProofs := false) only [turnE_nx, turnE_cnt, rd_0, rd_o, rd_of, rd_s, gO_0, gO_s, gO2_0, gO2_s, bp_nm, bp_tp, bps_nil, bps_cons, bp_eP, v_var, v_int, v_bool, v_str, v_none, v_glb, v_op, v_ch, v_ch3, v_neg, v_not, v_and, v_or, v_b1, v_ife, v_tup, v_lst, v_idx, v_bi, v_call, v_callB, v_rev, v_cut, v_p0, v_p1, vs_nil, vs_cons, f_0, f_1, i_s, i_r1, i_r2, i_e, i_z, v_lc, v_lc2, v_ssc, v_ssc2, v_sst, v_lset, x_nil, x_cons, t_nx, t_brk, t_cnt, t_ret, x_asgF, x_asgT, x_asgp, x_par, sets_nil, sets_cons, x_app, x_ext, x_exp, x_own2, x_newT, x_ret, x_ite, x_for, x_whl, x_frz, fz_o, fz_o2, fz_v, e_rF, e_rT, e_nF, sq_l, sq_t, sx_l, sx_t, sl_l, sq_L, sx_L, sl_L, sq_Ps, sx_Ps, sl_Ps, sq_G, sx_G, sl_G, sx_P, ai, ab, at0, at1, p_add, p_sub, p_lt, p_le, p_gt, p_ge, p_isB, p_isnB, p_isN, p_isnN, y_len, y_lenT, y_lenL, y_lenPs, y_lenG, y_int, y_intB, y_abs, y_min2, y_max2, y_gcd, y_list, y_listL, y_listPs, y_all, wipeE, frE, bib, Option.bind_some, Option.map_some, List.getD_cons_zero, List.getD_cons_succ, List.set_cons_zero, List.set_cons_succ, List.map_cons, List.map_nil, List.length_cons, List.length_nil, List.replicate, List.cons_append, List.nil_append, if_true, if_false, Bool.false_eq_true, Nat.reduceSub, Nat.reduceAdd, Nat.reduceLeDiff, List.length_map, if_lt (show (gs.zipIdx.filter fun q => !(decide (p.1 = q.2) || decide (p.2 = q.2))).length < 1000000 by omega), if_le (show 1 < 1000000 by decide), o_catG1, if_le (show (gs.zipIdx.filter fun q => !(decide (p.1 = q.2) || decide (p.2 = q.2))).length + 1 < 1000000 by omega)]
    have e3 := r3 (merged gs p) (by omega)
    have e4 := r4 (merged gs p) _ hw
    unfold merged at e3 e4 ⊢
    simp (implicitDefEqProofs := false) only [turnE_nx, turnE_cnt, rd_0, rd_o, rd_of, rd_s, gO_0, gO_s, gO2_0, gO2_s, bp_nm, bp_tp, bps_nil, bps_cons, bp_eP, v_var, v_int, v_bool, v_str, v_none, v_glb, v_op, v_ch, v_ch3, v_neg, v_not, v_and, v_or, v_b1, v_ife, v_tup, v_lst, v_idx, v_bi, v_call, v_callB, v_rev, v_cut, v_p0, v_p1, vs_nil, vs_cons, f_0, f_1, i_s, i_r1, i_r2, i_e, i_z, v_lc, v_lc2, v_ssc, v_ssc2, v_sst, v_lset, x_nil, x_cons, t_nx, t_brk, t_cnt, t_ret, x_asgF, x_asgT, x_asgp, x_par, sets_nil, sets_cons, x_app, x_ext, x_exp, x_own2, x_newT, x_ret, x_ite, x_for, x_whl, x_frz, fz_o, fz_o2, fz_v, e_rF, e_rT, e_nF, sq_l, sq_t, sx_l, sx_t, sl_l, sq_L, sx_L, sl_L, sq_Ps, sx_Ps, sl_Ps, sq_G, sx_G, sl_G, sx_P, ai, ab, at0, at1, p_add, p_sub, p_lt, p_le, p_gt, p_ge, p_isB, p_isnB, p_isN, p_isnN, y_len, y_lenT, y_lenL, y_lenPs, y_lenG, y_int, y_intB, y_abs, y_min2, y_max2, y_gcd, y_list, y_listL, y_listPs, y_all, wipeE, frE, bib, Option.bind_some, Option.map_some, List.getD_cons_zero, List.getD_cons_succ, List.set_cons_zero, List.set_cons_succ, List.map_cons, List.map_nil, List.length_cons, List.length_nil, List.replicate, List.cons_append, List.nil_append, if_true, if_false, Bool.false_eq_true, Nat.reduceSub, Nat.reduceAdd, Nat.reduceLeDiff, e3, e4, Bool.not_true, Bool.not_false]
  · intro p hp' hw
    obtain ⟨q1, q2⟩ := pof_lt hp'
    have g1 := getD_len (i := p.1) hm (by decide)
    have g2 := getD_len (i := p.2) hm (by decide)
    have ml := merged_len (gs := gs) (p := p)
    have fl : (gs.zipIdx.filter fun q => !(decide (p.1 = q.2) || decide (p.2 = q.2))).length ≤ gs.length := by
      have := List.length_filter_le (fun q : List Nat × Nat => !(decide (p.1 = q.2) || decide (p.2 = q.2))) gs.zipIdx
      rwa [List.length_zipIdx] at this
    simp (implicitDefEqProofs := false) only [turnE_nx, turnE_cnt, rd_0, rd_o, rd_of, rd_s, gO_0, gO_s, gO2_0, gO2_s, bp_nm, bp_tp, bps_nil, bps_cons, bp_eP, v_var, v_int, v_bool, v_str, v_none, v_glb, v_op, v_ch, v_ch3, v_neg, v_not, v_and, v_or, v_b1, v_ife, v_tup, v_lst, v_idx, v_bi, v_call, v_callB, v_rev, v_cut, v_p0, v_p1, vs_nil, vs_cons, f_0, f_1, i_s, i_r1, i_r2, i_e, i_z, v_lc, v_lc2, v_ssc, v_ssc2, v_sst, v_lset, x_nil, x_cons, t_nx, t_brk, t_cnt, t_ret, x_asgF, x_asgT, x_asgp, x_par, sets_nil, sets_cons, x_app, x_ext, x_exp, x_own2, x_newT, x_ret, x_ite, x_for, x_whl, x_frz, fz_o, fz_o2, fz_v, e_rF, e_rT, e_nF, sq_l, sq_t, sx_l, sx_t, sl_l, sq_L, sx_L, sl_L, sq_Ps, sx_Ps, sl_Ps, sq_G, sx_G, sl_G, sx_P, ai, ab, at0, at1, p_add, p_sub, p_lt, p_le, p_gt, p_ge, p_isB, p_isnB, p_isN, p_isnN, y_len, y_lenT, y_lenL, y_lenPs, y_lenG, y_int, y_intB, y_abs, y_min2, y_max2, y_gcd, y_list, y_listL, y_listPs, y_all, wipeE, frE, bib, Option.bind_some, Option.map_some, List.getD_cons_zero, List.getD_cons_succ, List.set_cons_zero, List.set_cons_succ, List.map_cons, List.map_nil, List.length_cons, List.length_nil, List.replicate, List.cons_append, List.nil_append, if_true, if_false, Bool.false_eq_true, Nat.reduceSub, Nat.reduceAdd, Nat.reduceLeDiff, at_G gs p.1 q1, at_G gs p.2 q2, o_catL, if_le (show (gs.getD p.1 []).length + (gs.getD p.2 []).length < 1000000 by omega), sorted_L]
    rw [mg]
    simp (implicitDefEqProofs := false) only [turnE_nx, turnE_cnt, rd_0, rd_o, rd_of, rd_s, gO_0, gO_s, gO2_0, gO2_s, bp_nm, bp_tp, bps_nil, bps_cons, bp_eP, v_var, v_int, v_bool, v_str, v_none, v_glb, v_op, v_ch, v_ch3, v_neg, v_not, v_and, v_or, v_b1, v_ife, v_tup, v_lst, v_idx, v_bi, v_call, v_callB, v_rev, v_cut, v_p0, v_p1, vs_nil, vs_cons, f_0, f_1, i_s, i_r1, i_r2, i_e, i_z, v_lc, v_lc2, v_ssc, v_ssc2, v_sst, v_lset, x_nil, x_cons, t_nx, t_brk, t_cnt, t_ret, x_asgF, x_asgT, x_asgp, x_par, sets_nil, sets_cons, x_app, x_ext, x_exp, x_own2, x_newT, x_ret, x_ite, x_for, x_whl, x_frz, fz_o, fz_o2, fz_v, e_rF, e_rT, e_nF, sq_l, sq_t, sx_l, sx_t, sl_l, sq_L, sx_L, sl_L, sq_Ps, sx_Ps, sl_Ps, sq_G, sx_G, sl_G, sx_P, ai, ab, at0, at1, p_add, p_sub, p_lt, p_le, p_gt, p_ge, p_isB, p_isnB, p_isN, p_isnN, y_len, y_lenT, y_lenL, y_lenPs, y_lenG, y_int, y_intB, y_abs, y_min2, y_max2, y_gcd, y_list, y_listL, y_listPs, y_all, wipeE, frE, bib, Option.bind_some, Option.map_some, List.getD_cons_zero, List.getD_cons_succ, List.set_cons_zero, List.set_cons_succ, List.map_cons, List.map_nil, List.length_cons, List.length_nil, List.replicate, List.cons_append, List.nil_append, if_true, if_false, Bool.false_eq_true, Nat.reduceSub, Nat.reduceAdd, Nat.reduceLeDiff, List.length_map, if_lt (show (gs.zipIdx.filter fun q => !(decide (p.1 = q.2) || decide (p.2 = q.2))).length < 1000000 by omega), if_le (show 1 < 1000000 by decide), o_catG1, if_le (show (gs.zipIdx.filter fun q => !(decide (p.1 = q.2) || decide (p.2 = q.2))).length + 1 < 1000000 by omega)]
    have e3 := r3 (merged gs p) (by omega)
    have e4 := r4 (merged gs p) _ hw
    unfold merged at e3 e4
    simp (implicitDefEqProofs := false) only [turnE_nx, turnE_cnt, rd_0, rd_o, rd_of, rd_s, gO_0, gO_s, gO2_0, gO2_s, bp_nm, bp_tp, bps_nil, bps_cons, bp_eP, v_var, v_int, v_bool, v_str, v_none, v_glb, v_op, v_ch, v_ch3, v_neg, v_not, v_and, v_or, v_b1, v_ife, v_tup, v_lst, v_idx, v_bi, v_call, v_callB, v_rev, v_cut, v_p0, v_p1, vs_nil, vs_cons, f_0, f_1, i_s, i_r1, i_r2, i_e, i_z, v_lc, v_lc2, v_ssc, v_ssc2, v_sst, v_lset, x_nil, x_cons, t_nx, t_brk, t_cnt, t_ret, x_asgF, x_asgT, x_asgp, x_par, sets_nil, sets_cons, x_app, x_ext, x_exp, x_own2, x_newT, x_ret, x_ite, x_for, x_whl, x_frz, fz_o, fz_o2, fz_v, e_rF, e_rT, e_nF, sq_l, sq_t, sx_l, sx_t, sl_l, sq_L, sx_L, sl_L, sq_Ps, sx_Ps, sl_Ps, sq_G, sx_G, sl_G, sx_P, ai, ab, at0, at1, p_add, p_sub, p_lt, p_le, p_gt, p_ge, p_isB, p_isnB, p_isN, p_isnN, y_len, y_lenT, y_lenL, y_lenPs, y_lenG, y_int, y_intB, y_abs, y_min2, y_max2, y_gcd, y_list, y_listL, y_listPs, y_all, wipeE, frE, bib, Option.bind_some, Option.map_some, List.getD_cons_zero, List.getD_cons_succ, List.set_cons_zero, List.set_cons_succ, List.map_cons, List.map_nil, List.length_cons, List.length_nil, List.replicate, List.cons_append, List.nil_append, if_true, if_false, Bool.false_eq_true, Nat.reduceSub, Nat.reduceAdd, Nat.reduceLeDiff, e3, e4, Bool.not_true, Bool.not_false]
end K19

set_option Elab.async false
set_option linter.all false
set_option maxRecDepth 100000
set_option maxHeartbeats 4000000
namespace K19
open PySem Pv
def okG (gs : List (List Nat)) : Bool := decide (gs.length < 90) && gs.all fun g => decide (g.length < 1000)
def fewC (N : Nat) (ps : List (Nat × Nat)) (gs : List (List Nat)) : Option (List (List Nat)) := if okG gs then fewM N gs ps else none
def fsM (N n : Nat) (ps : List (Nat × Nat)) : Option (Option (List (List Nat))) := (wornM N (pof (singles n) ps)).bind fun b => if b then some none else (itO (fun gs : List (List Nat) => decide (4 < gs.length)) (fewC N ps) N (singles n)).map fun gs => some (sortLN gs)
def oG : Option (List (List Nat)) → D
  | none => .none
  | some gs => eG gs
theorem r_four_sets (N k n : Nat) (ps : List (Nat × Nat)) (h1 : 1 ≤ n) (h2 : n ≤ 8) (h3 : ps.length ≤ 14) (h4 : ∀ p ∈ ps, p.1 < p.2 ∧ p.2 < n) (o : Option (List (List Nat))) (hw : fsM N n ps = some o) : cal (tabOf fds) N (k + 4) "four_sets" [gridD n ps] = some (oG o) := by
  rw [c_four_sets _ _ _ rfl, b_four_sets]
  have hl := pof_len (singles n) ps
  have sl : (singles n).length = n := by unfold singles; rw [List.length_map, List.length_range]
  have r1 := r_check N k n ps h1 h2 h3 h4
  have r2 : cal (tabOf fds) N (k + 3) "lines_of" [gridD n ps] = some (ePs ps) := r_lines N (k + 2) n ps (by omega)
  have r3 : cal (tabOf fds) N (k + 3) "pairs_of" [eG (singles n), ePs ps] = some (ePs (pof (singles n) ps)) := r_pairs_of N (k + 2) (singles n) ps (by omega) (by omega)
  unfold fsM at hw
  obtain ⟨b, hw1, hw⟩ := Option.bind_eq_some_iff.mp hw
  have r4 : cal (tabOf fds) N (k + 3) "worn" [ePs (pof (singles n) ps)] = some (.bool b) := r_worn N (k + 1) (pof (singles n) ps) (by omega) b hw1
  have r6 : ∀ gs gs2, fewC N ps gs = some gs2 → cal (tabOf fds) N (k + 3) "fewer" [eG gs, ePs ps] = some (eG gs2) := fun gs gs2 hf => by
    unfold fewC at hf
    split at hf
    · rename_i ho
      unfold okG at ho
      rw [Bool.and_eq_true, decide_eq_true_eq, List.all_eq_true] at ho
      exact r_fewer N k gs ps ho.1 (fun g hg => of_decide_eq_true (ho.2 g hg)) h3 gs2 hf
    · cases hf
  have sx : seqIx (gridD n ps) = some [.int n, .list (ps.zipIdx.map lineD)] := rfl
  have r5 : ∀ e0 e1 e2 : Ent, lcGo (elOf (CG N (k + 3)) [e0, e1, e2, .no] (.lst (.cons (.var 3) .nil)) (.nm 3) .nil [3]) ((List.range n).map eN) = some ((singles n).map eL) := fun e0 e1 e2 => by
    refine lcGo_map _ eN eL (fun v => [v]) (List.range n) fun v _ => ?_
    simp (implicitDefEqProofs := false) only [elOf, turnE_nx, turnE_cnt, rd_0, rd_o, rd_of, rd_s, gO_0, gO_s, gO2_0, gO2_s, bp_nm, bp_tp, bps_nil, bps_cons, bp_eP, v_var, v_int, v_bool, v_str, v_none, v_glb, v_op, v_ch, v_ch3, v_neg, v_not, v_and, v_or, v_b1, v_ife, v_tup, v_lst, v_idx, v_bi, v_call, v_callB, v_rev, v_cut, v_p0, v_p1, vs_nil, vs_cons, f_0, f_1, i_s, i_r1, i_r2, i_e, i_z, v_lc, v_lc2, v_ssc, v_ssc2, v_sst, v_lset, x_nil, x_cons, t_nx, t_brk, t_cnt, t_ret, x_asgF, x_asgT, x_asgp, x_par, sets_nil, sets_cons, x_app, x_ext, x_exp, x_own2, x_newT, x_ret, x_ite, x_for, x_whl, x_frz, fz_o, fz_o2, fz_v, e_rF, e_rT, e_nF, sq_l, sq_t, sx_l, sx_t, sl_l, sq_L, sx_L, sl_L, sq_Ps, sx_Ps, sl_Ps, sq_G, sx_G, sl_G, sx_P, ai, ab, at0, at1, p_add, p_sub, p_lt, p_le, p_gt, p_ge, p_isB, p_isnB, p_isN, p_isnN, y_len, y_lenT, y_lenL, y_lenPs, y_lenG, y_int, y_intB, y_abs, y_min2, y_max2, y_gcd, y_list, y_listL, y_listPs, y_all, wipeE, frE, bib, Option.bind_some, Option.map_some, List.getD_cons_zero, List.getD_cons_succ, List.set_cons_zero, List.set_cons_succ, List.map_cons, List.map_nil, List.length_cons, List.length_nil, List.replicate, List.cons_append, List.nil_append, if_true, if_false, Bool.false_eq_true, Nat.reduceSub, Nat.reduceAdd, Nat.reduceLeDiff]
    rw [if_le (by decide)]
    rfl
  revert r1 r2 r3 r4 r5 r6
  unfold CG
  generalize cal (tabOf fds) N (k + 3) = C
  intro r1 r2 r3 r4 r6 r5
  have lg : ∀ gs : List (List Nat), PyData.list (gs.map eL) = eG gs := fun _ => rfl
  simp (implicitDefEqProofs := false) only [turnE_nx, turnE_cnt, rd_0, rd_o, rd_of, rd_s, gO_0, gO_s, gO2_0, gO2_s, bp_nm, bp_tp, bps_nil, bps_cons, bp_eP, v_var, v_int, v_bool, v_str, v_none, v_glb, v_op, v_ch, v_ch3, v_neg, v_not, v_and, v_or, v_b1, v_ife, v_tup, v_lst, v_idx, v_bi, v_call, v_callB, v_rev, v_cut, v_p0, v_p1, vs_nil, vs_cons, f_0, f_1, i_s, i_r1, i_r2, i_e, i_z, v_lc, v_lc2, v_ssc, v_ssc2, v_sst, v_lset, x_nil, x_cons, t_nx, t_brk, t_cnt, t_ret, x_asgF, x_asgT, x_asgp, x_par, sets_nil, sets_cons, x_app, x_ext, x_exp, x_own2, x_newT, x_ret, x_ite, x_for, x_whl, x_frz, fz_o, fz_o2, fz_v, e_rF, e_rT, e_nF, sq_l, sq_t, sx_l, sx_t, sl_l, sq_L, sx_L, sl_L, sq_Ps, sx_Ps, sl_Ps, sq_G, sx_G, sl_G, sx_P, ai, ab, at0, at1, p_add, p_sub, p_lt, p_le, p_gt, p_ge, p_isB, p_isnB, p_isN, p_isnN, y_len, y_lenT, y_lenL, y_lenPs, y_lenG, y_int, y_intB, y_abs, y_min2, y_max2, y_gcd, y_list, y_listL, y_listPs, y_all, wipeE, frE, bib, Option.bind_some, Option.map_some, List.getD_cons_zero, List.getD_cons_succ, List.set_cons_zero, List.set_cons_succ, List.map_cons, List.map_nil, List.length_cons, List.length_nil, List.replicate, List.cons_append, List.nil_append, if_true, if_false, Bool.false_eq_true, Nat.reduceSub, Nat.reduceAdd, Nat.reduceLeDiff, r1, r2, sx, rng_ok (show n < 1000000 by omega), Int.toNat_natCast, rng_map, r5, List.length_map, sl, if_lt (show n < 1000000 by omega), lg, r3, r4]
  cases b with
  | true =>
    cases hw
    simp (implicitDefEqProofs := false) only [turnE_nx, turnE_cnt, rd_0, rd_o, rd_of, rd_s, gO_0, gO_s, gO2_0, gO2_s, bp_nm, bp_tp, bps_nil, bps_cons, bp_eP, v_var, v_int, v_bool, v_str, v_none, v_glb, v_op, v_ch, v_ch3, v_neg, v_not, v_and, v_or, v_b1, v_ife, v_tup, v_lst, v_idx, v_bi, v_call, v_callB, v_rev, v_cut, v_p0, v_p1, vs_nil, vs_cons, f_0, f_1, i_s, i_r1, i_r2, i_e, i_z, v_lc, v_lc2, v_ssc, v_ssc2, v_sst, v_lset, x_nil, x_cons, t_nx, t_brk, t_cnt, t_ret, x_asgF, x_asgT, x_asgp, x_par, sets_nil, sets_cons, x_app, x_ext, x_exp, x_own2, x_newT, x_ret, x_ite, x_for, x_whl, x_frz, fz_o, fz_o2, fz_v, e_rF, e_rT, e_nF, sq_l, sq_t, sx_l, sx_t, sl_l, sq_L, sx_L, sl_L, sq_Ps, sx_Ps, sl_Ps, sq_G, sx_G, sl_G, sx_P, ai, ab, at0, at1, p_add, p_sub, p_lt, p_le, p_gt, p_ge, p_isB, p_isnB, p_isN, p_isnN, y_len, y_lenT, y_lenL, y_lenPs, y_lenG, y_int, y_intB, y_abs, y_min2, y_max2, y_gcd, y_list, y_listL, y_listPs, y_all, wipeE, frE, bib, Option.bind_some, Option.map_some, List.getD_cons_zero, List.getD_cons_succ, List.set_cons_zero, List.set_cons_succ, List.map_cons, List.map_nil, List.length_cons, List.length_nil, List.replicate, List.cons_append, List.nil_append, if_true, if_false, Bool.false_eq_true, Nat.reduceSub, Nat.reduceAdd, Nat.reduceLeDiff]
    rfl
  | false =>
    simp only [Bool.false_eq_true, if_false] at hw
    obtain ⟨gs, e1, rfl⟩ := Option.map_eq_some_iff.mp hw
    have wl := fun c f hc hf => whlGo_o c f [] (fun gs : List (List Nat) => [.val (gridD n ps), .val (ePs ps), .val (eG gs), .no]) (fun gs : List (List Nat) => decide (4 < gs.length)) (fewC N ps) (fun _ => True) hc hf N (singles n) gs trivial e1
    simp (implicitDefEqProofs := false) only [turnE_nx, turnE_cnt, rd_0, rd_o, rd_of, rd_s, gO_0, gO_s, gO2_0, gO2_s, bp_nm, bp_tp, bps_nil, bps_cons, bp_eP, v_var, v_int, v_bool, v_str, v_none, v_glb, v_op, v_ch, v_ch3, v_neg, v_not, v_and, v_or, v_b1, v_ife, v_tup, v_lst, v_idx, v_bi, v_call, v_callB, v_rev, v_cut, v_p0, v_p1, vs_nil, vs_cons, f_0, f_1, i_s, i_r1, i_r2, i_e, i_z, v_lc, v_lc2, v_ssc, v_ssc2, v_sst, v_lset, x_nil, x_cons, t_nx, t_brk, t_cnt, t_ret, x_asgF, x_asgT, x_asgp, x_par, sets_nil, sets_cons, x_app, x_ext, x_exp, x_own2, x_newT, x_ret, x_ite, x_for, x_whl, x_frz, fz_o, fz_o2, fz_v, e_rF, e_rT, e_nF, sq_l, sq_t, sx_l, sx_t, sl_l, sq_L, sx_L, sl_L, sq_Ps, sx_Ps, sl_Ps, sq_G, sx_G, sl_G, sx_P, ai, ab, at0, at1, p_add, p_sub, p_lt, p_le, p_gt, p_ge, p_isB, p_isnB, p_isN, p_isnN, y_len, y_lenT, y_lenL, y_lenPs, y_lenG, y_int, y_intB, y_abs, y_min2, y_max2, y_gcd, y_list, y_listL, y_listPs, y_all, wipeE, frE, bib, Option.bind_some, Option.map_some, List.getD_cons_zero, List.getD_cons_succ, List.set_cons_zero, List.set_cons_succ, List.map_cons, List.map_nil, List.length_cons, List.length_nil, List.replicate, List.cons_append, List.nil_append, if_true, if_false, Bool.false_eq_true, Nat.reduceSub, Nat.reduceAdd, Nat.reduceLeDiff]
    rw [(wl _ _ ?_ ?_).1]
    · simp (implicitDefEqProofs := false) only [turnE_nx, turnE_cnt, rd_0, rd_o, rd_of, rd_s, gO_0, gO_s, gO2_0, gO2_s, bp_nm, bp_tp, bps_nil, bps_cons, bp_eP, v_var, v_int, v_bool, v_str, v_none, v_glb, v_op, v_ch, v_ch3, v_neg, v_not, v_and, v_or, v_b1, v_ife, v_tup, v_lst, v_idx, v_bi, v_call, v_callB, v_rev, v_cut, v_p0, v_p1, vs_nil, vs_cons, f_0, f_1, i_s, i_r1, i_r2, i_e, i_z, v_lc, v_lc2, v_ssc, v_ssc2, v_sst, v_lset, x_nil, x_cons, t_nx, t_brk, t_cnt, t_ret, x_asgF, x_asgT, x_asgp, x_par, sets_nil, sets_cons, x_app, x_ext, x_exp, x_own2, x_newT, x_ret, x_ite, x_for, x_whl, x_frz, fz_o, fz_o2, fz_v, e_rF, e_rT, e_nF, sq_l, sq_t, sx_l, sx_t, sl_l, sq_L, sx_L, sl_L, sq_Ps, sx_Ps, sl_Ps, sq_G, sx_G, sl_G, sx_P, ai, ab, at0, at1, p_add, p_sub, p_lt, p_le, p_gt, p_ge, p_isB, p_isnB, p_isN, p_isnN, y_len, y_lenT, y_lenL, y_lenPs, y_lenG, y_int, y_intB, y_abs, y_min2, y_max2, y_gcd, y_list, y_listL, y_listPs, y_all, wipeE, frE, bib, Option.bind_some, Option.map_some, List.getD_cons_zero, List.getD_cons_succ, List.set_cons_zero, List.set_cons_succ, List.map_cons, List.map_nil, List.length_cons, List.length_nil, List.replicate, List.cons_append, List.nil_append, if_true, if_false, Bool.false_eq_true, Nat.reduceSub, Nat.reduceAdd, Nat.reduceLeDiff, sortedL_G]
      rfl
    · intro s _
      simp (implicitDefEqProofs := false) only [turnE_nx, turnE_cnt, rd_0, rd_o, rd_of, rd_s, gO_0, gO_s, gO2_0, gO2_s, bp_nm, bp_tp, bps_nil, bps_cons, bp_eP, v_var, v_int, v_bool, v_str, v_none, v_glb, v_op, v_ch, v_ch3, v_neg, v_not, v_and, v_or, v_b1, v_ife, v_tup, v_lst, v_idx, v_bi, v_call, v_callB, v_rev, v_cut, v_p0, v_p1, vs_nil, vs_cons, f_0, f_1, i_s, i_r1, i_r2, i_e, i_z, v_lc, v_lc2, v_ssc, v_ssc2, v_sst, v_lset, x_nil, x_cons, t_nx, t_brk, t_cnt, t_ret, x_asgF, x_asgT, x_asgp, x_par, sets_nil, sets_cons, x_app, x_ext, x_exp, x_own2, x_newT, x_ret, x_ite, x_for, x_whl, x_frz, fz_o, fz_o2, fz_v, e_rF, e_rT, e_nF, sq_l, sq_t, sx_l, sx_t, sl_l, sq_L, sx_L, sl_L, sq_Ps, sx_Ps, sl_Ps, sq_G, sx_G, sl_G, sx_P, ai, ab, at0, at1, p_add, p_sub, p_lt, p_le, p_gt, p_ge, p_isB, p_isnB, p_isN, p_isnN, y_len, y_lenT, y_lenL, y_lenPs, y_lenG, y_int, y_intB, y_abs, y_min2, y_max2, y_gcd, y_list, y_listL, y_listPs, y_all, wipeE, frE, bib, Option.bind_some, Option.map_some, List.getD_cons_zero, List.getD_cons_succ, List.set_cons_zero, List.set_cons_succ, List.map_cons, List.map_nil, List.length_cons, List.length_nil, List.replicate, List.cons_append, List.nil_append, if_true, if_false, Bool.false_eq_true, Nat.reduceSub, Nat.reduceAdd, Nat.reduceLeDiff, y_lenG]
      congr 1
      exact decide_eq_decide.mpr (by omega)
    · intro s s2 _ _ hs
      refine ⟨?_, trivial⟩
      simp (implicitDefEqProofs := false) only [turnE_nx, turnE_cnt, rd_0, rd_o, rd_of, rd_s, gO_0, gO_s, gO2_0, gO2_s, bp_nm, bp_tp, bps_nil, bps_cons, bp_eP, v_var, v_int, v_bool, v_str, v_none, v_glb, v_op, v_ch, v_ch3, v_neg, v_not, v_and, v_or, v_b1, v_ife, v_tup, v_lst, v_idx, v_bi, v_call, v_callB, v_rev, v_cut, v_p0, v_p1, vs_nil, vs_cons, f_0, f_1, i_s, i_r1, i_r2, i_e, i_z, v_lc, v_lc2, v_ssc, v_ssc2, v_sst, v_lset, x_nil, x_cons, t_nx, t_brk, t_cnt, t_ret, x_asgF, x_asgT, x_asgp, x_par, sets_nil, sets_cons, x_app, x_ext, x_exp, x_own2, x_newT, x_ret, x_ite, x_for, x_whl, x_frz, fz_o, fz_o2, fz_v, e_rF, e_rT, e_nF, sq_l, sq_t, sx_l, sx_t, sl_l, sq_L, sx_L, sl_L, sq_Ps, sx_Ps, sl_Ps, sq_G, sx_G, sl_G, sx_P, ai, ab, at0, at1, p_add, p_sub, p_lt, p_le, p_gt, p_ge, p_isB, p_isnB, p_isN, p_isnN, y_len, y_lenT, y_lenL, y_lenPs, y_lenG, y_int, y_intB, y_abs, y_min2, y_max2, y_gcd, y_list, y_listL, y_listPs, y_all, wipeE, frE, bib, Option.bind_some, Option.map_some, List.getD_cons_zero, List.getD_cons_succ, List.set_cons_zero, List.set_cons_succ, List.map_cons, List.map_nil, List.length_cons, List.length_nil, List.replicate, List.cons_append, List.nil_append, if_true, if_false, Bool.false_eq_true, Nat.reduceSub, Nat.reduceAdd, Nat.reduceLeDiff, r6 s s2 hs]
end K19

set_option Elab.async false
set_option linter.all false
set_option maxRecDepth 100000
set_option maxHeartbeats 4000000
namespace K19
open PySem Pv
/-! ### joined_with -/
def jst (ps : List (Nat × Nat)) (s : List Nat × Nat) : Option (List Nat × Nat) := if s.1.length < 1000 then some (s.1 ++ sortN (dedupN ((endsN ps (s.1.getD s.2 0)).filter fun v => decide (v ∉ s.1))), s.2 + 1) else none
def joinM (N : Nat) (ps : List (Nat × Nat)) (v : Nat) : Option (List Nat) := (itO (fun s : List Nat × Nat => decide (s.2 < s.1.length)) (jst ps) N ([v], 0)).map fun s => sortN s.1
theorem o_ninl (a : Nat) (l : List Nat) : op2 .notIn (.int (a : Int)) (.list (l.map eN)) = some (.bool (!decide (a ∈ l))) := o_ninL a l
theorem o_inl (a : Nat) (l : List Nat) : op2 .isIn (.int (a : Int)) (.list (l.map eN)) = some (.bool (decide (a ∈ l))) := o_inL a l
theorem je_1 (N k : Nat) (ps : List (Nat × Nat)) (f : List Nat) (i : Nat) (hi : i < f.length) (e0 e1 e4 e7 : Ent) : lcGo (elOf (CG N k) [e0, e1, .own (f.map eN), .val (.int i), e4, .no, .no, e7] (.var 6) (.tp (.cons (.nm 5) (.cons (.nm 6) .nil))) (.cons (.op .eq (.var 5) (.idx (.var 2) (.var 3))) .nil) [5, 6]) (ps.map eP) = some (((ps.filter fun p => p.1 = f.getD i 0).map (·.2)).map eN) := by
  have ha : L2.atI (f.map eN) ((i : Nat) : Int) = some (eN (f.getD i 0)) := at_map eN f i (by rw [List.getD_eq_getElem?_getD, List.getElem?_eq_getElem hi]; rfl)
  rw [lcGo_fm _ eP eN (fun p => if p.1 = f.getD i 0 then some p.2 else none) _ fun q hq => ?_, fm_if (fun p : Nat × Nat => p.1 = f.getD i 0) (fun p => p.2) ps]
  obtain ⟨a, b⟩ := q
  simp (implicitDefEqProofs := false) only [elOf, turnE_nx, turnE_cnt, rd_0, rd_o, rd_of, rd_s, gO_0, gO_s, gO2_0, gO2_s, bp_nm, bp_tp, bps_nil, bps_cons, bp_eP, v_var, v_int, v_bool, v_str, v_none, v_glb, v_op, v_ch, v_ch3, v_neg, v_not, v_and, v_or, v_b1, v_ife, v_tup, v_lst, v_idx, v_bi, v_call, v_callB, v_rev, v_cut, v_p0, v_p1, vs_nil, vs_cons, f_0, f_1, i_s, i_r1, i_r2, i_e, i_z, v_lc, v_lc2, v_ssc, v_ssc2, v_sst, v_lset, x_nil, x_cons, t_nx, t_brk, t_cnt, t_ret, x_asgF, x_asgT, x_asgp, x_par, sets_nil, sets_cons, x_app, x_ext, x_exp, x_own2, x_newT, x_ret, x_ite, x_for, x_whl, x_frz, fz_o, fz_o2, fz_v, e_rF, e_rT, e_nF, sq_l, sq_t, sx_l, sx_t, sl_l, sq_L, sx_L, sl_L, sq_Ps, sx_Ps, sl_Ps, sq_G, sx_G, sl_G, sx_P, ai, ab, at0, at1, p_add, p_sub, p_lt, p_le, p_gt, p_ge, p_isB, p_isnB, p_isN, p_isnN, y_len, y_lenT, y_lenL, y_lenPs, y_lenG, y_int, y_intB, y_abs, y_min2, y_max2, y_gcd, y_list, y_listL, y_listPs, y_all, wipeE, frE, bib, Option.bind_some, Option.map_some, List.getD_cons_zero, List.getD_cons_succ, List.set_cons_zero, List.set_cons_succ, List.map_cons, List.map_nil, List.length_cons, List.length_nil, List.replicate, List.cons_append, List.nil_append, if_true, if_false, Bool.false_eq_true, Nat.reduceSub, Nat.reduceAdd, Nat.reduceLeDiff, ha, eN, o_eqI]
  by_cases h : a = f.getD i 0
  · simp [h, eN]
  · rw [decide_eq_false (by omega), if_neg h]; rfl
theorem je_2 (N k : Nat) (ps : List (Nat × Nat)) (f : List Nat) (i : Nat) (hi : i < f.length) (e0 e1 e4 e7 : Ent) : lcGo (elOf (CG N k) [e0, e1, .own (f.map eN), .val (.int i), e4, .no, .no, e7] (.var 5) (.tp (.cons (.nm 5) (.cons (.nm 6) .nil))) (.cons (.op .eq (.var 6) (.idx (.var 2) (.var 3))) .nil) [5, 6]) (ps.map eP) = some (((ps.filter fun p => p.2 = f.getD i 0).map (·.1)).map eN) := by
  have ha : L2.atI (f.map eN) ((i : Nat) : Int) = some (eN (f.getD i 0)) := at_map eN f i (by rw [List.getD_eq_getElem?_getD, List.getElem?_eq_getElem hi]; rfl)
  rw [lcGo_fm _ eP eN (fun p => if p.2 = f.getD i 0 then some p.1 else none) _ fun q hq => ?_, fm_if (fun p : Nat × Nat => p.2 = f.getD i 0) (fun p => p.1) ps]
  obtain ⟨a, b⟩ := q
  simp (implicitDefEqProofs := false) only [elOf, turnE_nx, turnE_cnt, rd_0, rd_o, rd_of, rd_s, gO_0, gO_s, gO2_0, gO2_s, bp_nm, bp_tp, bps_nil, bps_cons, bp_eP, v_var, v_int, v_bool, v_str, v_none, v_glb, v_op, v_ch, v_ch3, v_neg, v_not, v_and, v_or, v_b1, v_ife, v_tup, v_lst, v_idx, v_bi, v_call, v_callB, v_rev, v_cut, v_p0, v_p1, vs_nil, vs_cons, f_0, f_1, i_s, i_r1, i_r2, i_e, i_z, v_lc, v_lc2, v_ssc, v_ssc2, v_sst, v_lset, x_nil, x_cons, t_nx, t_brk, t_cnt, t_ret, x_asgF, x_asgT, x_asgp, x_par, sets_nil, sets_cons, x_app, x_ext, x_exp, x_own2, x_newT, x_ret, x_ite, x_for, x_whl, x_frz, fz_o, fz_o2, fz_v, e_rF, e_rT, e_nF, sq_l, sq_t, sx_l, sx_t, sl_l, sq_L, sx_L, sl_L, sq_Ps, sx_Ps, sl_Ps, sq_G, sx_G, sl_G, sx_P, ai, ab, at0, at1, p_add, p_sub, p_lt, p_le, p_gt, p_ge, p_isB, p_isnB, p_isN, p_isnN, y_len, y_lenT, y_lenL, y_lenPs, y_lenG, y_int, y_intB, y_abs, y_min2, y_max2, y_gcd, y_list, y_listL, y_listPs, y_all, wipeE, frE, bib, Option.bind_some, Option.map_some, List.getD_cons_zero, List.getD_cons_succ, List.set_cons_zero, List.set_cons_succ, List.map_cons, List.map_nil, List.length_cons, List.length_nil, List.replicate, List.cons_append, List.nil_append, if_true, if_false, Bool.false_eq_true, Nat.reduceSub, Nat.reduceAdd, Nat.reduceLeDiff, ha, eN, o_eqI]
  by_cases h : b = f.getD i 0
  · simp [h, eN]
  · rw [decide_eq_false (by omega), if_neg h]; rfl
theorem je_3 (N k : Nat) (f l : List Nat) (e0 e1 e3 e4 : Ent) : lcGo (elOf (CG N k) [e0, e1, .own (f.map eN), e3, e4, .no, .no, .no] (.var 7) (.nm 7) (.cons (.op .notIn (.var 7) (.var 2)) .nil) [7]) (l.map eN) = some ((l.filter fun v => decide (v ∉ f)).map eN) := by
  rw [lcGo_filter _ eN (fun v => decide (v ∉ f)) l fun q hq => ?_]
  simp (implicitDefEqProofs := false) only [elOf, turnE_nx, turnE_cnt, rd_0, rd_o, rd_of, rd_s, gO_0, gO_s, gO2_0, gO2_s, bp_nm, bp_tp, bps_nil, bps_cons, bp_eP, v_var, v_int, v_bool, v_str, v_none, v_glb, v_op, v_ch, v_ch3, v_neg, v_not, v_and, v_or, v_b1, v_ife, v_tup, v_lst, v_idx, v_bi, v_call, v_callB, v_rev, v_cut, v_p0, v_p1, vs_nil, vs_cons, f_0, f_1, i_s, i_r1, i_r2, i_e, i_z, v_lc, v_lc2, v_ssc, v_ssc2, v_sst, v_lset, x_nil, x_cons, t_nx, t_brk, t_cnt, t_ret, x_asgF, x_asgT, x_asgp, x_par, sets_nil, sets_cons, x_app, x_ext, x_exp, x_own2, x_newT, x_ret, x_ite, x_for, x_whl, x_frz, fz_o, fz_o2, fz_v, e_rF, e_rT, e_nF, sq_l, sq_t, sx_l, sx_t, sl_l, sq_L, sx_L, sl_L, sq_Ps, sx_Ps, sl_Ps, sq_G, sx_G, sl_G, sx_P, ai, ab, at0, at1, p_add, p_sub, p_lt, p_le, p_gt, p_ge, p_isB, p_isnB, p_isN, p_isnN, y_len, y_lenT, y_lenL, y_lenPs, y_lenG, y_int, y_intB, y_abs, y_min2, y_max2, y_gcd, y_list, y_listL, y_listPs, y_all, wipeE, frE, bib, Option.bind_some, Option.map_some, List.getD_cons_zero, List.getD_cons_succ, List.set_cons_zero, List.set_cons_succ, List.map_cons, List.map_nil, List.length_cons, List.length_nil, List.replicate, List.cons_append, List.nil_append, if_true, if_false, Bool.false_eq_true, Nat.reduceSub, Nat.reduceAdd, Nat.reduceLeDiff, eN, o_ninl]
  by_cases h : q ∈ f <;> simp [h]
theorem r_joined_with (N k : Nat) (ps : List (Nat × Nat)) (v : Nat) (hl : ps.length < 30) (r : List Nat) (hr : joinM N ps v = some r) : cal (tabOf fds) N (k + 1) "joined_with" [ePs ps, .int v] = some (eL r) := by
  rw [c_joined_with _ _ _ rfl, b_joined_with]
  unfold joinM at hr
  obtain ⟨s', hs, rfl⟩ := Option.map_eq_some_iff.mp hr
  have wl := fun c f hc hf => whlGo_o c f [4] (fun s : List Nat × Nat => [.val (ePs ps), .val (.int v), .own (s.1.map eN), .val (.int s.2), .no, .no, .no, .no]) (fun s => decide (s.2 < s.1.length)) (jst ps) (fun _ => True) hc hf N ([v], 0) s' trivial hs
  have ln : ∀ l : List Nat, PyData.list (l.map eN) = eL l := fun _ => rfl
  simp (implicitDefEqProofs := false) only [turnE_nx, turnE_cnt, rd_0, rd_o, rd_of, rd_s, gO_0, gO_s, gO2_0, gO2_s, bp_nm, bp_tp, bps_nil, bps_cons, bp_eP, v_var, v_int, v_bool, v_str, v_none, v_glb, v_op, v_ch, v_ch3, v_neg, v_not, v_and, v_or, v_b1, v_ife, v_tup, v_lst, v_idx, v_bi, v_call, v_callB, v_rev, v_cut, v_p0, v_p1, vs_nil, vs_cons, f_0, f_1, i_s, i_r1, i_r2, i_e, i_z, v_lc, v_lc2, v_ssc, v_ssc2, v_sst, v_lset, x_nil, x_cons, t_nx, t_brk, t_cnt, t_ret, x_asgF, x_asgT, x_asgp, x_par, sets_nil, sets_cons, x_app, x_ext, x_exp, x_own2, x_newT, x_ret, x_ite, x_for, x_whl, x_frz, fz_o, fz_o2, fz_v, e_rF, e_rT, e_nF, sq_l, sq_t, sx_l, sx_t, sl_l, sq_L, sx_L, sl_L, sq_Ps, sx_Ps, sl_Ps, sq_G, sx_G, sl_G, sx_P, ai, ab, at0, at1, p_add, p_sub, p_lt, p_le, p_gt, p_ge, p_isB, p_isnB, p_isN, p_isnN, y_len, y_lenT, y_lenL, y_lenPs, y_lenG, y_int, y_intB, y_abs, y_min2, y_max2, y_gcd, y_list, y_listL, y_listPs, y_all, wipeE, frE, bib, Option.bind_some, Option.map_some, List.getD_cons_zero, List.getD_cons_succ, List.set_cons_zero, List.set_cons_succ, List.map_cons, List.map_nil, List.length_cons, List.length_nil, List.replicate, List.cons_append, List.nil_append, if_true, if_false, Bool.false_eq_true, Nat.reduceSub, Nat.reduceAdd, Nat.reduceLeDiff, if_le (show 1 < 1000000 by decide)]
  have w2 : ∀ c f, _ → _ → _ := wl
  rw [show ([Ent.val (ePs ps), .val (.int v), .own [.int (v : Int)], .val (.int 0), .no, .no, .no, .no] : En) = (fun s : List Nat × Nat => [.val (ePs ps), .val (.int v), .own (s.1.map eN), .val (.int s.2), .no, .no, .no, .no]) ([v], 0) from rfl]
  rw [(wl _ _ ?_ ?_).1]
  · simp (implicitDefEqProofs := false) only [turnE_nx, turnE_cnt, rd_0, rd_o, rd_of, rd_s, gO_0, gO_s, gO2_0, gO2_s, bp_nm, bp_tp, bps_nil, bps_cons, bp_eP, v_var, v_int, v_bool, v_str, v_none, v_glb, v_op, v_ch, v_ch3, v_neg, v_not, v_and, v_or, v_b1, v_ife, v_tup, v_lst, v_idx, v_bi, v_call, v_callB, v_rev, v_cut, v_p0, v_p1, vs_nil, vs_cons, f_0, f_1, i_s, i_r1, i_r2, i_e, i_z, v_lc, v_lc2, v_ssc, v_ssc2, v_sst, v_lset, x_nil, x_cons, t_nx, t_brk, t_cnt, t_ret, x_asgF, x_asgT, x_asgp, x_par, sets_nil, sets_cons, x_app, x_ext, x_exp, x_own2, x_newT, x_ret, x_ite, x_for, x_whl, x_frz, fz_o, fz_o2, fz_v, e_rF, e_rT, e_nF, sq_l, sq_t, sx_l, sx_t, sl_l, sq_L, sx_L, sl_L, sq_Ps, sx_Ps, sl_Ps, sq_G, sx_G, sl_G, sx_P, ai, ab, at0, at1, p_add, p_sub, p_lt, p_le, p_gt, p_ge, p_isB, p_isnB, p_isN, p_isnN, y_len, y_lenT, y_lenL, y_lenPs, y_lenG, y_int, y_intB, y_abs, y_min2, y_max2, y_gcd, y_list, y_listL, y_listPs, y_all, wipeE, frE, bib, Option.bind_some, Option.map_some, List.getD_cons_zero, List.getD_cons_succ, List.set_cons_zero, List.set_cons_succ, List.map_cons, List.map_nil, List.length_cons, List.length_nil, List.replicate, List.cons_append, List.nil_append, if_true, if_false, Bool.false_eq_true, Nat.reduceSub, Nat.reduceAdd, Nat.reduceLeDiff, ln, sorted_L]
  · intro s _
    simp (implicitDefEqProofs := false) only [turnE_nx, turnE_cnt, rd_0, rd_o, rd_of, rd_s, gO_0, gO_s, gO2_0, gO2_s, bp_nm, bp_tp, bps_nil, bps_cons, bp_eP, v_var, v_int, v_bool, v_str, v_none, v_glb, v_op, v_ch, v_ch3, v_neg, v_not, v_and, v_or, v_b1, v_ife, v_tup, v_lst, v_idx, v_bi, v_call, v_callB, v_rev, v_cut, v_p0, v_p1, vs_nil, vs_cons, f_0, f_1, i_s, i_r1, i_r2, i_e, i_z, v_lc, v_lc2, v_ssc, v_ssc2, v_sst, v_lset, x_nil, x_cons, t_nx, t_brk, t_cnt, t_ret, x_asgF, x_asgT, x_asgp, x_par, sets_nil, sets_cons, x_app, x_ext, x_exp, x_own2, x_newT, x_ret, x_ite, x_for, x_whl, x_frz, fz_o, fz_o2, fz_v, e_rF, e_rT, e_nF, sq_l, sq_t, sx_l, sx_t, sl_l, sq_L, sx_L, sl_L, sq_Ps, sx_Ps, sl_Ps, sq_G, sx_G, sl_G, sx_P, ai, ab, at0, at1, p_add, p_sub, p_lt, p_le, p_gt, p_ge, p_isB, p_isnB, p_isN, p_isnN, y_len, y_lenT, y_lenL, y_lenPs, y_lenG, y_int, y_intB, y_abs, y_min2, y_max2, y_gcd, y_list, y_listL, y_listPs, y_all, wipeE, frE, bib, Option.bind_some, Option.map_some, List.getD_cons_zero, List.getD_cons_succ, List.set_cons_zero, List.set_cons_succ, List.map_cons, List.map_nil, List.length_cons, List.length_nil, List.replicate, List.cons_append, List.nil_append, if_true, if_false, Bool.false_eq_true, Nat.reduceSub, Nat.reduceAdd, Nat.reduceLeDiff, List.length_map]
    congr 1
    exact decide_eq_decide.mpr (by omega)
  · intro s s2 _ hc hs
    refine ⟨?_, trivial⟩
    unfold jst at hs
    split at hs
    · rename_i hlt
      cases hs
      have hi := of_decide_eq_true hc
      have k1 := List.length_filter_le (fun p => decide (p.1 = s.1.getD s.2 0)) ps
      have k2 := List.length_filter_le (fun p => decide (p.2 = s.1.getD s.2 0)) ps
      have k3 := List.length_filter_le (fun v => decide (v ∉ s.1)) (endsN ps (s.1.getD s.2 0))
      have k4 : (endsN ps (s.1.getD s.2 0)).length ≤ 60 := by
        unfold endsN
        rw [List.length_append, List.length_map, List.length_map]
        omega
      have k5 := dedupN_le ((endsN ps (s.1.getD s.2 0)).filter fun v => decide (v ∉ s.1))
      have k6 : (sortN (dedupN ((endsN ps (s.1.getD s.2 0)).filter fun v => decide (v ∉ s.1)))).length < 64 := by
        rw [(sortN_perm _).length_eq]; omega
      have q1 := fun e4 => je_1 N k ps s.1 s.2 hi (.val (ePs ps)) (.val (.int v)) e4 .no
      have q2 := fun e4 => je_2 N k ps s.1 s.2 hi (.val (ePs ps)) (.val (.int v)) e4 .no
      have q3 := fun e4 => je_3 N k s.1 (endsN ps (s.1.getD s.2 0)) (.val (ePs ps)) (.val (.int v)) (.val (.int s.2)) e4
      have q4 : ∀ l m : List Nat, op2 .add (.list (l.map eN)) (.list (m.map eN)) = if l.length + m.length ≤ line then some (eL (l ++ m)) else none := o_catL
      simp (implicitDefEqProofs := false) only [turnE_nx, turnE_cnt, rd_0, rd_o, rd_of, rd_s, gO_0, gO_s, gO2_0, gO2_s, bp_nm, bp_tp, bps_nil, bps_cons, bp_eP, v_var, v_int, v_bool, v_str, v_none, v_glb, v_op, v_ch, v_ch3, v_neg, v_not, v_and, v_or, v_b1, v_ife, v_tup, v_lst, v_idx, v_bi, v_call, v_callB, v_rev, v_cut, v_p0, v_p1, vs_nil, vs_cons, f_0, f_1, i_s, i_r1, i_r2, i_e, i_z, v_lc, v_lc2, v_ssc, v_ssc2, v_sst, v_lset, x_nil, x_cons, t_nx, t_brk, t_cnt, t_ret, x_asgF, x_asgT, x_asgp, x_par, sets_nil, sets_cons, x_app, x_ext, x_exp, x_own2, x_newT, x_ret, x_ite, x_for, x_whl, x_frz, fz_o, fz_o2, fz_v, e_rF, e_rT, e_nF, sq_l, sq_t, sx_l, sx_t, sl_l, sq_L, sx_L, sl_L, sq_Ps, sx_Ps, sl_Ps, sq_G, sx_G, sl_G, sx_P, ai, ab, at0, at1, p_add, p_sub, p_lt, p_le, p_gt, p_ge, p_isB, p_isnB, p_isN, p_isnN, y_len, y_lenT, y_lenL, y_lenPs, y_lenG, y_int, y_intB, y_abs, y_min2, y_max2, y_gcd, y_list, y_listL, y_listPs, y_all, wipeE, frE, bib, Option.bind_some, Option.map_some, List.getD_cons_zero, List.getD_cons_succ, List.set_cons_zero, List.set_cons_succ, List.map_cons, List.map_nil, List.length_cons, List.length_nil, List.replicate, List.cons_append, List.nil_append, if_true, if_false, Bool.false_eq_true, Nat.reduceSub, Nat.reduceAdd, Nat.reduceLeDiff, q1, q2, List.length_map, if_lt (show (ps.filter fun p => decide (p.1 = s.1.getD s.2 0)).length < 1000000 by omega), if_lt (show (ps.filter fun p => decide (p.2 = s.1.getD s.2 0)).length < 1000000 by omega), q4, if_le (show (ps.filter fun p => decide (p.1 = s.1.getD s.2 0)).length + (ps.filter fun p => decide (p.2 = s.1.getD s.2 0)).length < 1000000 by omega)]
      rw [show (ps.filter fun p => decide (p.1 = s.1.getD s.2 0)).map (·.2) ++ (ps.filter fun p => decide (p.2 = s.1.getD s.2 0)).map (·.1) = endsN ps (s.1.getD s.2 0) from rfl]
      simp (implicitDefEqProofs := false) only [turnE_nx, turnE_cnt, rd_0, rd_o, rd_of, rd_s, gO_0, gO_s, gO2_0, gO2_s, bp_nm, bp_tp, bps_nil, bps_cons, bp_eP, v_var, v_int, v_bool, v_str, v_none, v_glb, v_op, v_ch, v_ch3, v_neg, v_not, v_and, v_or, v_b1, v_ife, v_tup, v_lst, v_idx, v_bi, v_call, v_callB, v_rev, v_cut, v_p0, v_p1, vs_nil, vs_cons, f_0, f_1, i_s, i_r1, i_r2, i_e, i_z, v_lc, v_lc2, v_ssc, v_ssc2, v_sst, v_lset, x_nil, x_cons, t_nx, t_brk, t_cnt, t_ret, x_asgF, x_asgT, x_asgp, x_par, sets_nil, sets_cons, x_app, x_ext, x_exp, x_own2, x_newT, x_ret, x_ite, x_for, x_whl, x_frz, fz_o, fz_o2, fz_v, e_rF, e_rT, e_nF, sq_l, sq_t, sx_l, sx_t, sl_l, sq_L, sx_L, sl_L, sq_Ps, sx_Ps, sl_Ps, sq_G, sx_G, sl_G, sx_P, ai, ab, at0, at1, p_add, p_sub, p_lt, p_le, p_gt, p_ge, p_isB, p_isnB, p_isN, p_isnN, y_len, y_lenT, y_lenL, y_lenPs, y_lenG, y_int, y_intB, y_abs, y_min2, y_max2, y_gcd, y_list, y_listL, y_listPs, y_all, wipeE, frE, bib, Option.bind_some, Option.map_some, List.getD_cons_zero, List.getD_cons_succ, List.set_cons_zero, List.set_cons_succ, List.map_cons, List.map_nil, List.length_cons, List.length_nil, List.replicate, List.cons_append, List.nil_append, if_true, if_false, Bool.false_eq_true, Nat.reduceSub, Nat.reduceAdd, Nat.reduceLeDiff, q3, List.length_map, if_pos (show ((endsN ps (s.1.getD s.2 0)).filter fun v => decide (v ∉ s.1)).length < 1000 by omega)]
      rw [setI_N _ (by omega)]
      simp (implicitDefEqProofs := false) only [turnE_nx, turnE_cnt, rd_0, rd_o, rd_of, rd_s, gO_0, gO_s, gO2_0, gO2_s, bp_nm, bp_tp, bps_nil, bps_cons, bp_eP, v_var, v_int, v_bool, v_str, v_none, v_glb, v_op, v_ch, v_ch3, v_neg, v_not, v_and, v_or, v_b1, v_ife, v_tup, v_lst, v_idx, v_bi, v_call, v_callB, v_rev, v_cut, v_p0, v_p1, vs_nil, vs_cons, f_0, f_1, i_s, i_r1, i_r2, i_e, i_z, v_lc, v_lc2, v_ssc, v_ssc2, v_sst, v_lset, x_nil, x_cons, t_nx, t_brk, t_cnt, t_ret, x_asgF, x_asgT, x_asgp, x_par, sets_nil, sets_cons, x_app, x_ext, x_exp, x_own2, x_newT, x_ret, x_ite, x_for, x_whl, x_frz, fz_o, fz_o2, fz_v, e_rF, e_rT, e_nF, sq_l, sq_t, sx_l, sx_t, sl_l, sq_L, sx_L, sl_L, sq_Ps, sx_Ps, sl_Ps, sq_G, sx_G, sl_G, sx_P, ai, ab, at0, at1, p_add, p_sub, p_lt, p_le, p_gt, p_ge, p_isB, p_isnB, p_isN, p_isnN, y_len, y_lenT, y_lenL, y_lenPs, y_lenG, y_int, y_intB, y_abs, y_min2, y_max2, y_gcd, y_list, y_listL, y_listPs, y_all, wipeE, frE, bib, Option.bind_some, Option.map_some, List.getD_cons_zero, List.getD_cons_succ, List.set_cons_zero, List.set_cons_succ, List.map_cons, List.map_nil, List.length_cons, List.length_nil, List.replicate, List.cons_append, List.nil_append, if_true, if_false, Bool.false_eq_true, Nat.reduceSub, Nat.reduceAdd, Nat.reduceLeDiff, List.length_map, if_le (show s.1.length + (sortN (dedupN ((endsN ps (s.1.getD s.2 0)).filter fun v => decide (v ∉ s.1)))).length < 1000000 by omega)]
      rw [← List.map_append]
      rfl
    · cases hs
end K19

set_option Elab.async false
set_option linter.all false
set_option maxRecDepth 100000
set_option maxHeartbeats 4000000
namespace K19
open PySem Pv
/-! ### _law_joined -/
def ljst (g : List Nat) (f : List Nat) (p : Nat × Nat) : List Nat := if p.1 ∈ g ∧ p.2 ∈ g ∧ decide (p.1 ∈ f) ≠ decide (p.2 ∈ f) then f ++ [p.1, p.2].filter (fun v => decide (v ∉ f)) else f
def ljF (g : List Nat) (ps : List (Nat × Nat)) : List Nat := (List.range g.length).foldl (fun f _ => ps.foldl (ljst g) f) (g.take 1)
def ljM (g : List Nat) (ps : List (Nat × Nat)) : Bool := decide (sortN (ljF g ps) = sortN g)
theorem ljst_ok {g f : List Nat} (p : Nat × Nat) (h : f.Nodup ∧ ∀ v ∈ f, v ∈ g) : (ljst g f p).Nodup ∧ ∀ v ∈ ljst g f p, v ∈ g := by
  unfold ljst
  split
  · rename_i hc
    obtain ⟨h1, h2, h3⟩ := hc
    obtain ⟨nd, sb⟩ := h
    have hne : p.1 ≠ p.2 := fun e => h3 (by rw [e])
    refine ⟨List.nodup_append.mpr ⟨nd, List.Pairwise.filter _ (by simp [hne]), fun a ha b hb e => ?_⟩, fun v hv => ?_⟩
    · subst e
      have := (List.mem_filter.mp hb).2
      simp at this
      exact this ha
    · rcases List.mem_append.mp hv with hv | hv
      · exact sb v hv
      · have := (List.mem_filter.mp hv).1
        rcases List.mem_cons.mp this with rfl | this
        · exact h1
        · rw [List.mem_singleton.mp this]; exact h2
  · exact h
theorem nd_len {f g : List Nat} (h : f.Nodup ∧ ∀ v ∈ f, v ∈ g) : f.length ≤ g.length := by
  have : ∀ (f : List Nat) (g : List Nat), f.Nodup → (∀ v ∈ f, v ∈ g) → f.length ≤ g.length := by
    intro f
    induction f with
    | nil => intro g _ _; exact Nat.zero_le _
    | cons a f ih =>
      intro g nd sb
      obtain ⟨h1, h2⟩ := List.nodup_cons.mp nd
      have ha := sb a (List.mem_cons_self ..)
      have := ih (g.erase a) h2 fun v hv => (List.mem_erase_of_ne (fun e => h1 (by rw [← e]; exact hv))).mpr (sb v (List.mem_cons_of_mem _ hv))
      rw [List.length_erase_of_mem ha] at this
      have hp := List.length_pos_of_mem ha
      rw [List.length_cons]
      omega
  exact this f g h.1 h.2
theorem ljfold_ok {g : List Nat} : ∀ (ps : List (Nat × Nat)) (f : List Nat), (f.Nodup ∧ ∀ v ∈ f, v ∈ g) → (ps.foldl (ljst g) f).Nodup ∧ ∀ v ∈ ps.foldl (ljst g) f, v ∈ g
  | [], f, h => h
  | p :: ps, f, h => ljfold_ok ps _ (ljst_ok p h)
theorem o_neB (a b : Bool) : op2 .ne (.bool a) (.bool b) = some (.bool (!decide (a = b))) := by cases a <;> cases b <;> rfl
theorem o_eqL' (l m : List Nat) : op2 .eq (eL l) (eL m) = some (.bool (decide (l = m))) := o_eqL l m
theorem r_law_joined (N k : Nat) (g : List Nat) (ps : List (Nat × Nat)) (hg : g.length < 1000) (hn : g.Nodup) : cal (tabOf fds) N (k + 1) "_law_joined" [eL g, ePs ps] = some (.bool (ljM g ps)) := by
  rw [c_law_joined _ _ _ rfl, b_law_joined]
  have ln : ∀ l : List Nat, PyData.list (l.map eN) = eL l := fun _ => rfl
  have q4 : ∀ l m : List Nat, op2 .add (eL l) (.list (m.map eN)) = if l.length + m.length ≤ line then some (eL (l ++ m)) else none := o_catL
  have c1 : cutD (g.map eN) none (some 1) = (g.take 1).map eN := cut_to eN g 1
  have f1 := fun f hf => forGo_i f [3, 4, 5] eN (fun f : List Nat => [.val (eL g), .val (ePs ps), .val (eL f), .no, .no, .no, .no]) (fun f _ => ps.foldl (ljst g) f) (fun f => f.Nodup ∧ ∀ v ∈ f, v ∈ g) (List.range g.length) (g.take 1) ⟨hn.sublist (List.take_sublist ..), fun v hv => List.mem_of_mem_take hv⟩ hf
  simp (implicitDefEqProofs := false) only [turnE_nx, turnE_cnt, rd_0, rd_o, rd_of, rd_s, gO_0, gO_s, gO2_0, gO2_s, bp_nm, bp_tp, bps_nil, bps_cons, bp_eP, v_var, v_int, v_bool, v_str, v_none, v_glb, v_op, v_ch, v_ch3, v_neg, v_not, v_and, v_or, v_b1, v_ife, v_tup, v_lst, v_idx, v_bi, v_call, v_callB, v_rev, v_cut, v_p0, v_p1, vs_nil, vs_cons, f_0, f_1, i_s, i_r1, i_r2, i_e, i_z, v_lc, v_lc2, v_ssc, v_ssc2, v_sst, v_lset, x_nil, x_cons, t_nx, t_brk, t_cnt, t_ret, x_asgF, x_asgT, x_asgp, x_par, sets_nil, sets_cons, x_app, x_ext, x_exp, x_own2, x_newT, x_ret, x_ite, x_for, x_whl, x_frz, fz_o, fz_o2, fz_v, e_rF, e_rT, e_nF, sq_l, sq_t, sx_l, sx_t, sl_l, sq_L, sx_L, sl_L, sq_Ps, sx_Ps, sl_Ps, sq_G, sx_G, sl_G, sx_P, ai, ab, at0, at1, p_add, p_sub, p_lt, p_le, p_gt, p_ge, p_isB, p_isnB, p_isN, p_isnN, y_len, y_lenT, y_lenL, y_lenPs, y_lenG, y_int, y_intB, y_abs, y_min2, y_max2, y_gcd, y_list, y_listL, y_listPs, y_all, wipeE, frE, bib, Option.bind_some, Option.map_some, List.getD_cons_zero, List.getD_cons_succ, List.set_cons_zero, List.set_cons_succ, List.map_cons, List.map_nil, List.length_cons, List.length_nil, List.replicate, List.cons_append, List.nil_append, if_true, if_false, Bool.false_eq_true, Nat.reduceSub, Nat.reduceAdd, Nat.reduceLeDiff, c1, ln, List.length_map, rng_ok (show g.length < 1000000 by omega), Int.toNat_natCast, rng_map]
  rw [(f1 _ ?_).1]
  · simp (implicitDefEqProofs := false) only [turnE_nx, turnE_cnt, rd_0, rd_o, rd_of, rd_s, gO_0, gO_s, gO2_0, gO2_s, bp_nm, bp_tp, bps_nil, bps_cons, bp_eP, v_var, v_int, v_bool, v_str, v_none, v_glb, v_op, v_ch, v_ch3, v_neg, v_not, v_and, v_or, v_b1, v_ife, v_tup, v_lst, v_idx, v_bi, v_call, v_callB, v_rev, v_cut, v_p0, v_p1, vs_nil, vs_cons, f_0, f_1, i_s, i_r1, i_r2, i_e, i_z, v_lc, v_lc2, v_ssc, v_ssc2, v_sst, v_lset, x_nil, x_cons, t_nx, t_brk, t_cnt, t_ret, x_asgF, x_asgT, x_asgp, x_par, sets_nil, sets_cons, x_app, x_ext, x_exp, x_own2, x_newT, x_ret, x_ite, x_for, x_whl, x_frz, fz_o, fz_o2, fz_v, e_rF, e_rT, e_nF, sq_l, sq_t, sx_l, sx_t, sl_l, sq_L, sx_L, sl_L, sq_Ps, sx_Ps, sl_Ps, sq_G, sx_G, sl_G, sx_P, ai, ab, at0, at1, p_add, p_sub, p_lt, p_le, p_gt, p_ge, p_isB, p_isnB, p_isN, p_isnN, y_len, y_lenT, y_lenL, y_lenPs, y_lenG, y_int, y_intB, y_abs, y_min2, y_max2, y_gcd, y_list, y_listL, y_listPs, y_all, wipeE, frE, bib, Option.bind_some, Option.map_some, List.getD_cons_zero, List.getD_cons_succ, List.set_cons_zero, List.set_cons_succ, List.map_cons, List.map_nil, List.length_cons, List.length_nil, List.replicate, List.cons_append, List.nil_append, if_true, if_false, Bool.false_eq_true, Nat.reduceSub, Nat.reduceAdd, Nat.reduceLeDiff, sorted_L, o_eqL']
    rfl
  · intro f j _ hf
    have f2 := fun F hF => forGo_i F [4, 5] eP (fun f : List Nat => [.val (eL g), .val (ePs ps), .val (eL f), .val (eN j), .no, .no, .no]) (ljst g) (fun f => f.Nodup ∧ ∀ v ∈ f, v ∈ g) ps f hf hF
    simp (implicitDefEqProofs := false) only [turnE_nx, turnE_cnt, rd_0, rd_o, rd_of, rd_s, gO_0, gO_s, gO2_0, gO2_s, bp_nm, bp_tp, bps_nil, bps_cons, bp_eP, v_var, v_int, v_bool, v_str, v_none, v_glb, v_op, v_ch, v_ch3, v_neg, v_not, v_and, v_or, v_b1, v_ife, v_tup, v_lst, v_idx, v_bi, v_call, v_callB, v_rev, v_cut, v_p0, v_p1, vs_nil, vs_cons, f_0, f_1, i_s, i_r1, i_r2, i_e, i_z, v_lc, v_lc2, v_ssc, v_ssc2, v_sst, v_lset, x_nil, x_cons, t_nx, t_brk, t_cnt, t_ret, x_asgF, x_asgT, x_asgp, x_par, sets_nil, sets_cons, x_app, x_ext, x_exp, x_own2, x_newT, x_ret, x_ite, x_for, x_whl, x_frz, fz_o, fz_o2, fz_v, e_rF, e_rT, e_nF, sq_l, sq_t, sx_l, sx_t, sl_l, sq_L, sx_L, sl_L, sq_Ps, sx_Ps, sl_Ps, sq_G, sx_G, sl_G, sx_P, ai, ab, at0, at1, p_add, p_sub, p_lt, p_le, p_gt, p_ge, p_isB, p_isnB, p_isN, p_isnN, y_len, y_lenT, y_lenL, y_lenPs, y_lenG, y_int, y_intB, y_abs, y_min2, y_max2, y_gcd, y_list, y_listL, y_listPs, y_all, wipeE, frE, bib, Option.bind_some, Option.map_some, List.getD_cons_zero, List.getD_cons_succ, List.set_cons_zero, List.set_cons_succ, List.map_cons, List.map_nil, List.length_cons, List.length_nil, List.replicate, List.cons_append, List.nil_append, if_true, if_false, Bool.false_eq_true, Nat.reduceSub, Nat.reduceAdd, Nat.reduceLeDiff]
    rw [(f2 _ ?_).1]
    · exact ⟨rfl, ljfold_ok ps f hf⟩
    · intro f p _ hf
      refine ⟨?_, ljst_ok p hf⟩
      obtain ⟨a, b⟩ := p
      have lf := nd_len hf
      have l3 : lcGo (elOf (CG N k) [.val (eL g), .val (ePs ps), .val (eL f), .val (eN j), .val (.int a), .val (.int b), .no] (.var 6) (.nm 6) (.cons (.op .notIn (.var 6) (.var 2)) .nil) [6]) [.int a, .int b] = some (([a, b].filter fun v => decide (v ∉ f)).map eN) := by
        show lcGo _ ([a, b].map eN) = _
        rw [lcGo_filter _ eN (fun v => decide (v ∉ f)) [a, b] fun q hq => ?_]
        simp (implicitDefEqProofs := false) only [elOf, turnE_nx, turnE_cnt, rd_0, rd_o, rd_of, rd_s, gO_0, gO_s, gO2_0, gO2_s, bp_nm, bp_tp, bps_nil, bps_cons, bp_eP, v_var, v_int, v_bool, v_str, v_none, v_glb, v_op, v_ch, v_ch3, v_neg, v_not, v_and, v_or, v_b1, v_ife, v_tup, v_lst, v_idx, v_bi, v_call, v_callB, v_rev, v_cut, v_p0, v_p1, vs_nil, vs_cons, f_0, f_1, i_s, i_r1, i_r2, i_e, i_z, v_lc, v_lc2, v_ssc, v_ssc2, v_sst, v_lset, x_nil, x_cons, t_nx, t_brk, t_cnt, t_ret, x_asgF, x_asgT, x_asgp, x_par, sets_nil, sets_cons, x_app, x_ext, x_exp, x_own2, x_newT, x_ret, x_ite, x_for, x_whl, x_frz, fz_o, fz_o2, fz_v, e_rF, e_rT, e_nF, sq_l, sq_t, sx_l, sx_t, sl_l, sq_L, sx_L, sl_L, sq_Ps, sx_Ps, sl_Ps, sq_G, sx_G, sl_G, sx_P, ai, ab, at0, at1, p_add, p_sub, p_lt, p_le, p_gt, p_ge, p_isB, p_isnB, p_isN, p_isnN, y_len, y_lenT, y_lenL, y_lenPs, y_lenG, y_int, y_intB, y_abs, y_min2, y_max2, y_gcd, y_list, y_listL, y_listPs, y_all, wipeE, frE, bib, Option.bind_some, Option.map_some, List.getD_cons_zero, List.getD_cons_succ, List.set_cons_zero, List.set_cons_succ, List.map_cons, List.map_nil, List.length_cons, List.length_nil, List.replicate, List.cons_append, List.nil_append, if_true, if_false, Bool.false_eq_true, Nat.reduceSub, Nat.reduceAdd, Nat.reduceLeDiff, eN, o_ninL']
        by_cases h : q ∈ f <;> simp [h]
      have l4 := List.length_filter_le (fun v => decide (v ∉ f)) [a, b]
      simp only [List.length_cons, List.length_nil] at l4
      unfold ljst
      by_cases h1 : a ∈ g
      · by_cases h2 : b ∈ g
        · by_cases h3 : decide (a ∈ f) = decide (b ∈ f)
          · simp (implicitDefEqProofs := false) only [turnE_nx, turnE_cnt, rd_0, rd_o, rd_of, rd_s, gO_0, gO_s, gO2_0, gO2_s, bp_nm, bp_tp, bps_nil, bps_cons, bp_eP, v_var, v_int, v_bool, v_str, v_none, v_glb, v_op, v_ch, v_ch3, v_neg, v_not, v_and, v_or, v_b1, v_ife, v_tup, v_lst, v_idx, v_bi, v_call, v_callB, v_rev, v_cut, v_p0, v_p1, vs_nil, vs_cons, f_0, f_1, i_s, i_r1, i_r2, i_e, i_z, v_lc, v_lc2, v_ssc, v_ssc2, v_sst, v_lset, x_nil, x_cons, t_nx, t_brk, t_cnt, t_ret, x_asgF, x_asgT, x_asgp, x_par, sets_nil, sets_cons, x_app, x_ext, x_exp, x_own2, x_newT, x_ret, x_ite, x_for, x_whl, x_frz, fz_o, fz_o2, fz_v, e_rF, e_rT, e_nF, sq_l, sq_t, sx_l, sx_t, sl_l, sq_L, sx_L, sl_L, sq_Ps, sx_Ps, sl_Ps, sq_G, sx_G, sl_G, sx_P, ai, ab, at0, at1, p_add, p_sub, p_lt, p_le, p_gt, p_ge, p_isB, p_isnB, p_isN, p_isnN, y_len, y_lenT, y_lenL, y_lenPs, y_lenG, y_int, y_intB, y_abs, y_min2, y_max2, y_gcd, y_list, y_listL, y_listPs, y_all, wipeE, frE, bib, Option.bind_some, Option.map_some, List.getD_cons_zero, List.getD_cons_succ, List.set_cons_zero, List.set_cons_succ, List.map_cons, List.map_nil, List.length_cons, List.length_nil, List.replicate, List.cons_append, List.nil_append, if_true, if_false, Bool.false_eq_true, Nat.reduceSub, Nat.reduceAdd, Nat.reduceLeDiff, o_inL', h1, h2, h3, decide_true, o_neB, Bool.not_true]
            simp [h3]
          · simp (implicitDefEqProofs := false) only [turnE_nx, turnE_cnt, rd_0, rd_o, rd_of, rd_s, gO_0, gO_s, gO2_0, gO2_s, bp_nm, bp_tp, bps_nil, bps_cons, bp_eP, v_var, v_int, v_bool, v_str, v_none, v_glb, v_op, v_ch, v_ch3, v_neg, v_not, v_and, v_or, v_b1, v_ife, v_tup, v_lst, v_idx, v_bi, v_call, v_callB, v_rev, v_cut, v_p0, v_p1, vs_nil, vs_cons, f_0, f_1, i_s, i_r1, i_r2, i_e, i_z, v_lc, v_lc2, v_ssc, v_ssc2, v_sst, v_lset, x_nil, x_cons, t_nx, t_brk, t_cnt, t_ret, x_asgF, x_asgT, x_asgp, x_par, sets_nil, sets_cons, x_app, x_ext, x_exp, x_own2, x_newT, x_ret, x_ite, x_for, x_whl, x_frz, fz_o, fz_o2, fz_v, e_rF, e_rT, e_nF, sq_l, sq_t, sx_l, sx_t, sl_l, sq_L, sx_L, sl_L, sq_Ps, sx_Ps, sl_Ps, sq_G, sx_G, sl_G, sx_P, ai, ab, at0, at1, p_add, p_sub, p_lt, p_le, p_gt, p_ge, p_isB, p_isnB, p_isN, p_isnN, y_len, y_lenT, y_lenL, y_lenPs, y_lenG, y_int, y_intB, y_abs, y_min2, y_max2, y_gcd, y_list, y_listL, y_listPs, y_all, wipeE, frE, bib, Option.bind_some, Option.map_some, List.getD_cons_zero, List.getD_cons_succ, List.set_cons_zero, List.set_cons_succ, List.map_cons, List.map_nil, List.length_cons, List.length_nil, List.replicate, List.cons_append, List.nil_append, if_true, if_false, Bool.false_eq_true, Nat.reduceSub, Nat.reduceAdd, Nat.reduceLeDiff, o_inL', h1, h2, decide_true, o_neB, Bool.not_false, decide_eq_false h3, if_le (show 2 < 1000000 by decide), l3, List.length_map, if_lt (show ([a, b].filter fun v => decide (v ∉ f)).length < 1000000 by omega), q4, if_le (show f.length + ([a, b].filter fun v => decide (v ∉ f)).length < 1000000 by omega)]
            simp [h3]
        · simp (implicitDefEqProofs := false) only [turnE_nx, turnE_cnt, rd_0, rd_o, rd_of, rd_s, gO_0, gO_s, gO2_0, gO2_s, bp_nm, bp_tp, bps_nil, bps_cons, bp_eP, v_var, v_int, v_bool, v_str, v_none, v_glb, v_op, v_ch, v_ch3, v_neg, v_not, v_and, v_or, v_b1, v_ife, v_tup, v_lst, v_idx, v_bi, v_call, v_callB, v_rev, v_cut, v_p0, v_p1, vs_nil, vs_cons, f_0, f_1, i_s, i_r1, i_r2, i_e, i_z, v_lc, v_lc2, v_ssc, v_ssc2, v_sst, v_lset, x_nil, x_cons, t_nx, t_brk, t_cnt, t_ret, x_asgF, x_asgT, x_asgp, x_par, sets_nil, sets_cons, x_app, x_ext, x_exp, x_own2, x_newT, x_ret, x_ite, x_for, x_whl, x_frz, fz_o, fz_o2, fz_v, e_rF, e_rT, e_nF, sq_l, sq_t, sx_l, sx_t, sl_l, sq_L, sx_L, sl_L, sq_Ps, sx_Ps, sl_Ps, sq_G, sx_G, sl_G, sx_P, ai, ab, at0, at1, p_add, p_sub, p_lt, p_le, p_gt, p_ge, p_isB, p_isnB, p_isN, p_isnN, y_len, y_lenT, y_lenL, y_lenPs, y_lenG, y_int, y_intB, y_abs, y_min2, y_max2, y_gcd, y_list, y_listL, y_listPs, y_all, wipeE, frE, bib, Option.bind_some, Option.map_some, List.getD_cons_zero, List.getD_cons_succ, List.set_cons_zero, List.set_cons_succ, List.map_cons, List.map_nil, List.length_cons, List.length_nil, List.replicate, List.cons_append, List.nil_append, if_true, if_false, Bool.false_eq_true, Nat.reduceSub, Nat.reduceAdd, Nat.reduceLeDiff, o_inL', h1, h2, decide_true, decide_false]
          simp [h2]
      · simp (implicitDefEqProofs := false) only [turnE_nx, turnE_cnt, rd_0, rd_o, rd_of, rd_s, gO_0, gO_s, gO2_0, gO2_s, bp_nm, bp_tp, bps_nil, bps_cons, bp_eP, v_var, v_int, v_bool, v_str, v_none, v_glb, v_op, v_ch, v_ch3, v_neg, v_not, v_and, v_or, v_b1, v_ife, v_tup, v_lst, v_idx, v_bi, v_call, v_callB, v_rev, v_cut, v_p0, v_p1, vs_nil, vs_cons, f_0, f_1, i_s, i_r1, i_r2, i_e, i_z, v_lc, v_lc2, v_ssc, v_ssc2, v_sst, v_lset, x_nil, x_cons, t_nx, t_brk, t_cnt, t_ret, x_asgF, x_asgT, x_asgp, x_par, sets_nil, sets_cons, x_app, x_ext, x_exp, x_own2, x_newT, x_ret, x_ite, x_for, x_whl, x_frz, fz_o, fz_o2, fz_v, e_rF, e_rT, e_nF, sq_l, sq_t, sx_l, sx_t, sl_l, sq_L, sx_L, sl_L, sq_Ps, sx_Ps, sl_Ps, sq_G, sx_G, sl_G, sx_P, ai, ab, at0, at1, p_add, p_sub, p_lt, p_le, p_gt, p_ge, p_isB, p_isnB, p_isN, p_isnN, y_len, y_lenT, y_lenL, y_lenPs, y_lenG, y_int, y_intB, y_abs, y_min2, y_max2, y_gcd, y_list, y_listL, y_listPs, y_all, wipeE, frE, bib, Option.bind_some, Option.map_some, List.getD_cons_zero, List.getD_cons_succ, List.set_cons_zero, List.set_cons_succ, List.map_cons, List.map_nil, List.length_cons, List.length_nil, List.replicate, List.cons_append, List.nil_append, if_true, if_false, Bool.false_eq_true, Nat.reduceSub, Nat.reduceAdd, Nat.reduceLeDiff, o_inL', h1, decide_false]
        simp [h1]
end K19

set_option Elab.async false
set_option linter.all false
set_option maxRecDepth 100000
set_option maxHeartbeats 4000000
namespace K19
open PySem Pv
/-! ### are_four_sets -/
def insN (g : List Nat) (ps : List (Nat × Nat)) : List (Nat × Nat) := ps.filter fun p => decide (p.1 ∈ g) && decide (p.2 ∈ g)
def ascB (g : List Nat) : Bool := (g.zip (g.drop 1)).all fun p => decide (p.1 < p.2)
def badg (N : Nat) (ps : List (Nat × Nat)) (g : List Nat) : Option Bool := if ascB g then (joinM N (insN g ps) (g.getD 0 0)).map fun r => !decide (r = g) else some true
def afM (N n : Nat) (ps : List (Nat × Nat)) (told : List (List Nat)) : Option Bool :=
  if (!decide (told.length = 4) || !told.all fun g => decide (0 < g.length)) = true then some false
  else if (!(told.flatten.all fun v => decide (v < n)) || decide ((dedupN told.flatten).length < told.flatten.length)) = true then some false
  else (fb (badg N ps) told).map fun o => match o with
    | some _ => false
    | none => decide ((pof told ps).length = 6)
theorem a_lens (N k : Nat) (told : List (List Nat)) (e0 e1 e3 e4 e5 e6 e7 e8 : Ent) : lcGo (elOf (CG N k) [e0, e1, .no, e3, e4, e5, e6, e7, e8] (.op .gt (.bi .len (.cons (.var 2) .nil)) (.con (.int 0))) (.nm 2) .nil [2]) (told.map eL) = some ((told.map fun g => decide (0 < g.length)).map .bool) := by
  rw [lcGo_map _ eL .bool (fun g : List Nat => decide (0 < g.length)) told fun g hg => ?_]
  · simp (implicitDefEqProofs := false) only [elOf, turnE_nx, turnE_cnt, rd_0, rd_o, rd_of, rd_s, gO_0, gO_s, gO2_0, gO2_s, bp_nm, bp_tp, bps_nil, bps_cons, bp_eP, v_var, v_int, v_bool, v_str, v_none, v_glb, v_op, v_ch, v_ch3, v_neg, v_not, v_and, v_or, v_b1, v_ife, v_tup, v_lst, v_idx, v_bi, v_call, v_callB, v_rev, v_cut, v_p0, v_p1, vs_nil, vs_cons, f_0, f_1, i_s, i_r1, i_r2, i_e, i_z, v_lc, v_lc2, v_ssc, v_ssc2, v_sst, v_lset, x_nil, x_cons, t_nx, t_brk, t_cnt, t_ret, x_asgF, x_asgT, x_asgp, x_par, sets_nil, sets_cons, x_app, x_ext, x_exp, x_own2, x_newT, x_ret, x_ite, x_for, x_whl, x_frz, fz_o, fz_o2, fz_v, e_rF, e_rT, e_nF, sq_l, sq_t, sx_l, sx_t, sl_l, sq_L, sx_L, sl_L, sq_Ps, sx_Ps, sl_Ps, sq_G, sx_G, sl_G, sx_P, ai, ab, at0, at1, p_add, p_sub, p_lt, p_le, p_gt, p_ge, p_isB, p_isnB, p_isN, p_isnN, y_len, y_lenT, y_lenL, y_lenPs, y_lenG, y_int, y_intB, y_abs, y_min2, y_max2, y_gcd, y_list, y_listL, y_listPs, y_all, wipeE, frE, bib, Option.bind_some, Option.map_some, List.getD_cons_zero, List.getD_cons_succ, List.set_cons_zero, List.set_cons_succ, List.map_cons, List.map_nil, List.length_cons, List.length_nil, List.replicate, List.cons_append, List.nil_append, if_true, if_false, Bool.false_eq_true, Nat.reduceSub, Nat.reduceAdd, Nat.reduceLeDiff]
    congr 3
    exact decide_eq_decide.mpr (by omega)
theorem a_flat (N k : Nat) (told : List (List Nat)) (e0 e1 e3 e5 e6 e7 e8 : Ent) : lcGo2 (el2Of (CG N k) [e0, e1, .no, e3, .no, e5, e6, e7, e8] (.var 4) (.nm 2) .nil [2, 4] (.seq (.var 2)) (.nm 4) .nil [4]) (told.map eL) = some (told.flatten.map eN) := by
  rw [lcGo2_fm _ eL eN (fun g => g) told fun g hg => ?_]
  · rw [List.flatMap_id']
  · simp (implicitDefEqProofs := false) only [el2Of, turnE_nx, turnE_cnt, rd_0, rd_o, rd_of, rd_s, gO_0, gO_s, gO2_0, gO2_s, bp_nm, bp_tp, bps_nil, bps_cons, bp_eP, v_var, v_int, v_bool, v_str, v_none, v_glb, v_op, v_ch, v_ch3, v_neg, v_not, v_and, v_or, v_b1, v_ife, v_tup, v_lst, v_idx, v_bi, v_call, v_callB, v_rev, v_cut, v_p0, v_p1, vs_nil, vs_cons, f_0, f_1, i_s, i_r1, i_r2, i_e, i_z, v_lc, v_lc2, v_ssc, v_ssc2, v_sst, v_lset, x_nil, x_cons, t_nx, t_brk, t_cnt, t_ret, x_asgF, x_asgT, x_asgp, x_par, sets_nil, sets_cons, x_app, x_ext, x_exp, x_own2, x_newT, x_ret, x_ite, x_for, x_whl, x_frz, fz_o, fz_o2, fz_v, e_rF, e_rT, e_nF, sq_l, sq_t, sx_l, sx_t, sl_l, sq_L, sx_L, sl_L, sq_Ps, sx_Ps, sl_Ps, sq_G, sx_G, sl_G, sx_P, ai, ab, at0, at1, p_add, p_sub, p_lt, p_le, p_gt, p_ge, p_isB, p_isnB, p_isN, p_isnN, y_len, y_lenT, y_lenL, y_lenPs, y_lenG, y_int, y_intB, y_abs, y_min2, y_max2, y_gcd, y_list, y_listL, y_listPs, y_all, wipeE, frE, bib, Option.bind_some, Option.map_some, List.getD_cons_zero, List.getD_cons_succ, List.set_cons_zero, List.set_cons_succ, List.map_cons, List.map_nil, List.length_cons, List.length_nil, List.replicate, List.cons_append, List.nil_append, if_true, if_false, Bool.false_eq_true, Nat.reduceSub, Nat.reduceAdd, Nat.reduceLeDiff]
    rw [lcGo_map _ eN eN (fun v => v) g fun v _ => ?_]
    · rw [List.map_id']
    · simp (implicitDefEqProofs := false) only [elOf, turnE_nx, turnE_cnt, rd_0, rd_o, rd_of, rd_s, gO_0, gO_s, gO2_0, gO2_s, bp_nm, bp_tp, bps_nil, bps_cons, bp_eP, v_var, v_int, v_bool, v_str, v_none, v_glb, v_op, v_ch, v_ch3, v_neg, v_not, v_and, v_or, v_b1, v_ife, v_tup, v_lst, v_idx, v_bi, v_call, v_callB, v_rev, v_cut, v_p0, v_p1, vs_nil, vs_cons, f_0, f_1, i_s, i_r1, i_r2, i_e, i_z, v_lc, v_lc2, v_ssc, v_ssc2, v_sst, v_lset, x_nil, x_cons, t_nx, t_brk, t_cnt, t_ret, x_asgF, x_asgT, x_asgp, x_par, sets_nil, sets_cons, x_app, x_ext, x_exp, x_own2, x_newT, x_ret, x_ite, x_for, x_whl, x_frz, fz_o, fz_o2, fz_v, e_rF, e_rT, e_nF, sq_l, sq_t, sx_l, sx_t, sl_l, sq_L, sx_L, sl_L, sq_Ps, sx_Ps, sl_Ps, sq_G, sx_G, sl_G, sx_P, ai, ab, at0, at1, p_add, p_sub, p_lt, p_le, p_gt, p_ge, p_isB, p_isnB, p_isN, p_isnN, y_len, y_lenT, y_lenL, y_lenPs, y_lenG, y_int, y_intB, y_abs, y_min2, y_max2, y_gcd, y_list, y_listL, y_listPs, y_all, wipeE, frE, bib, Option.bind_some, Option.map_some, List.getD_cons_zero, List.getD_cons_succ, List.set_cons_zero, List.set_cons_succ, List.map_cons, List.map_nil, List.length_cons, List.length_nil, List.replicate, List.cons_append, List.nil_append, if_true, if_false, Bool.false_eq_true, Nat.reduceSub, Nat.reduceAdd, Nat.reduceLeDiff]
theorem a_rng (N k n : Nat) (l : List Nat) (ps : List (Nat × Nat)) (e1 e2 e3 e5 e6 e7 e8 : Ent) : lcGo (elOf (CG N k) [.val (gridD n ps), e1, e2, e3, .no, e5, e6, e7, e8] (.ch .le .lt (.con (.int 0)) (.var 4) (.idx (.var 0) (.con (.int 0)))) (.nm 4) .nil [4]) (l.map eN) = some ((l.map fun v => decide (v < n)).map .bool) := by
  have sx : seqIx (gridD n ps) = some [.int n, .list (ps.zipIdx.map lineD)] := rfl
  rw [lcGo_map _ eN .bool (fun v => decide (v < n)) l fun g hg => ?_]
  simp (implicitDefEqProofs := false) only [elOf, turnE_nx, turnE_cnt, rd_0, rd_o, rd_of, rd_s, gO_0, gO_s, gO2_0, gO2_s, bp_nm, bp_tp, bps_nil, bps_cons, bp_eP, v_var, v_int, v_bool, v_str, v_none, v_glb, v_op, v_ch, v_ch3, v_neg, v_not, v_and, v_or, v_b1, v_ife, v_tup, v_lst, v_idx, v_bi, v_call, v_callB, v_rev, v_cut, v_p0, v_p1, vs_nil, vs_cons, f_0, f_1, i_s, i_r1, i_r2, i_e, i_z, v_lc, v_lc2, v_ssc, v_ssc2, v_sst, v_lset, x_nil, x_cons, t_nx, t_brk, t_cnt, t_ret, x_asgF, x_asgT, x_asgp, x_par, sets_nil, sets_cons, x_app, x_ext, x_exp, x_own2, x_newT, x_ret, x_ite, x_for, x_whl, x_frz, fz_o, fz_o2, fz_v, e_rF, e_rT, e_nF, sq_l, sq_t, sx_l, sx_t, sl_l, sq_L, sx_L, sl_L, sq_Ps, sx_Ps, sl_Ps, sq_G, sx_G, sl_G, sx_P, ai, ab, at0, at1, p_add, p_sub, p_lt, p_le, p_gt, p_ge, p_isB, p_isnB, p_isN, p_isnN, y_len, y_lenT, y_lenL, y_lenPs, y_lenG, y_int, y_intB, y_abs, y_min2, y_max2, y_gcd, y_list, y_listL, y_listPs, y_all, wipeE, frE, bib, Option.bind_some, Option.map_some, List.getD_cons_zero, List.getD_cons_succ, List.set_cons_zero, List.set_cons_succ, List.map_cons, List.map_nil, List.length_cons, List.length_nil, List.replicate, List.cons_append, List.nil_append, if_true, if_false, Bool.false_eq_true, Nat.reduceSub, Nat.reduceAdd, Nat.reduceLeDiff, eN, decide_eq_true (show (0 : Int) ≤ (g : Int) by omega), sx]
  congr 3
  exact decide_eq_decide.mpr (by omega)
theorem a_id (N k : Nat) (l : List Nat) (e0 e1 e2 e3 e5 e6 e7 e8 : Ent) : lcGo (elOf (CG N k) [e0, e1, e2, e3, .no, e5, e6, e7, e8] (.var 4) (.nm 4) .nil [4]) (l.map eN) = some (l.map eN) := by
  rw [lcGo_map _ eN eN (fun v => v) l fun v _ => ?_]
  · rw [List.map_id']
  · simp (implicitDefEqProofs := false) only [elOf, turnE_nx, turnE_cnt, rd_0, rd_o, rd_of, rd_s, gO_0, gO_s, gO2_0, gO2_s, bp_nm, bp_tp, bps_nil, bps_cons, bp_eP, v_var, v_int, v_bool, v_str, v_none, v_glb, v_op, v_ch, v_ch3, v_neg, v_not, v_and, v_or, v_b1, v_ife, v_tup, v_lst, v_idx, v_bi, v_call, v_callB, v_rev, v_cut, v_p0, v_p1, vs_nil, vs_cons, f_0, f_1, i_s, i_r1, i_r2, i_e, i_z, v_lc, v_lc2, v_ssc, v_ssc2, v_sst, v_lset, x_nil, x_cons, t_nx, t_brk, t_cnt, t_ret, x_asgF, x_asgT, x_asgp, x_par, sets_nil, sets_cons, x_app, x_ext, x_exp, x_own2, x_newT, x_ret, x_ite, x_for, x_whl, x_frz, fz_o, fz_o2, fz_v, e_rF, e_rT, e_nF, sq_l, sq_t, sx_l, sx_t, sl_l, sq_L, sx_L, sl_L, sq_Ps, sx_Ps, sl_Ps, sq_G, sx_G, sl_G, sx_P, ai, ab, at0, at1, p_add, p_sub, p_lt, p_le, p_gt, p_ge, p_isB, p_isnB, p_isN, p_isnN, y_len, y_lenT, y_lenL, y_lenPs, y_lenG, y_int, y_intB, y_abs, y_min2, y_max2, y_gcd, y_list, y_listL, y_listPs, y_all, wipeE, frE, bib, Option.bind_some, Option.map_some, List.getD_cons_zero, List.getD_cons_succ, List.set_cons_zero, List.set_cons_succ, List.map_cons, List.map_nil, List.length_cons, List.length_nil, List.replicate, List.cons_append, List.nil_append, if_true, if_false, Bool.false_eq_true, Nat.reduceSub, Nat.reduceAdd, Nat.reduceLeDiff]
theorem a_ins (N k : Nat) (g : List Nat) (ps : List (Nat × Nat)) (e0 e1 e3 e4 e5 e6 : Ent) : lcGo (elOf (CG N k) [e0, e1, .val (eL g), e3, e4, e5, e6, .no, .no] (.tup (.cons (.var 7) (.cons (.var 8) .nil))) (.tp (.cons (.nm 7) (.cons (.nm 8) .nil))) (.cons (.bool true (.cons (.op .isIn (.var 7) (.var 2)) (.cons (.op .isIn (.var 8) (.var 2)) .nil))) .nil) [7, 8]) (ps.map eP) = some ((insN g ps).map eP) := by
  rw [lcGo_filter _ eP (fun p => decide (p.1 ∈ g) && decide (p.2 ∈ g)) ps fun p hp => ?_]
  · rfl
  · obtain ⟨a, b⟩ := p
    simp (implicitDefEqProofs := false) only [elOf, turnE_nx, turnE_cnt, rd_0, rd_o, rd_of, rd_s, gO_0, gO_s, gO2_0, gO2_s, bp_nm, bp_tp, bps_nil, bps_cons, bp_eP, v_var, v_int, v_bool, v_str, v_none, v_glb, v_op, v_ch, v_ch3, v_neg, v_not, v_and, v_or, v_b1, v_ife, v_tup, v_lst, v_idx, v_bi, v_call, v_callB, v_rev, v_cut, v_p0, v_p1, vs_nil, vs_cons, f_0, f_1, i_s, i_r1, i_r2, i_e, i_z, v_lc, v_lc2, v_ssc, v_ssc2, v_sst, v_lset, x_nil, x_cons, t_nx, t_brk, t_cnt, t_ret, x_asgF, x_asgT, x_asgp, x_par, sets_nil, sets_cons, x_app, x_ext, x_exp, x_own2, x_newT, x_ret, x_ite, x_for, x_whl, x_frz, fz_o, fz_o2, fz_v, e_rF, e_rT, e_nF, sq_l, sq_t, sx_l, sx_t, sl_l, sq_L, sx_L, sl_L, sq_Ps, sx_Ps, sl_Ps, sq_G, sx_G, sl_G, sx_P, ai, ab, at0, at1, p_add, p_sub, p_lt, p_le, p_gt, p_ge, p_isB, p_isnB, p_isN, p_isnN, y_len, y_lenT, y_lenL, y_lenPs, y_lenG, y_int, y_intB, y_abs, y_min2, y_max2, y_gcd, y_list, y_listL, y_listPs, y_all, wipeE, frE, bib, Option.bind_some, Option.map_some, List.getD_cons_zero, List.getD_cons_succ, List.set_cons_zero, List.set_cons_succ, List.map_cons, List.map_nil, List.length_cons, List.length_nil, List.replicate, List.cons_append, List.nil_append, if_true, if_false, Bool.false_eq_true, Nat.reduceSub, Nat.reduceAdd, Nat.reduceLeDiff, o_inL']
    by_cases h1 : a ∈ g <;> by_cases h2 : b ∈ g
    · simp only [h1, h2, decide_true, if_true, Bool.and_self]
      simp (implicitDefEqProofs := false) only [turnE_nx, turnE_cnt, rd_0, rd_o, rd_of, rd_s, gO_0, gO_s, gO2_0, gO2_s, bp_nm, bp_tp, bps_nil, bps_cons, bp_eP, v_var, v_int, v_bool, v_str, v_none, v_glb, v_op, v_ch, v_ch3, v_neg, v_not, v_and, v_or, v_b1, v_ife, v_tup, v_lst, v_idx, v_bi, v_call, v_callB, v_rev, v_cut, v_p0, v_p1, vs_nil, vs_cons, f_0, f_1, i_s, i_r1, i_r2, i_e, i_z, v_lc, v_lc2, v_ssc, v_ssc2, v_sst, v_lset, x_nil, x_cons, t_nx, t_brk, t_cnt, t_ret, x_asgF, x_asgT, x_asgp, x_par, sets_nil, sets_cons, x_app, x_ext, x_exp, x_own2, x_newT, x_ret, x_ite, x_for, x_whl, x_frz, fz_o, fz_o2, fz_v, e_rF, e_rT, e_nF, sq_l, sq_t, sx_l, sx_t, sl_l, sq_L, sx_L, sl_L, sq_Ps, sx_Ps, sl_Ps, sq_G, sx_G, sl_G, sx_P, ai, ab, at0, at1, p_add, p_sub, p_lt, p_le, p_gt, p_ge, p_isB, p_isnB, p_isN, p_isnN, y_len, y_lenT, y_lenL, y_lenPs, y_lenG, y_int, y_intB, y_abs, y_min2, y_max2, y_gcd, y_list, y_listL, y_listPs, y_all, wipeE, frE, bib, Option.bind_some, Option.map_some, List.getD_cons_zero, List.getD_cons_succ, List.set_cons_zero, List.set_cons_succ, List.map_cons, List.map_nil, List.length_cons, List.length_nil, List.replicate, List.cons_append, List.nil_append, if_true, if_false, Bool.false_eq_true, Nat.reduceSub, Nat.reduceAdd, Nat.reduceLeDiff, h1, h2, o_inL', decide_true, if_le (show 2 < 1000000 by decide)]
      rfl
    · simp only [h1, h2, decide_true, if_true, decide_false, Bool.and_false]
      simp (implicitDefEqProofs := false) only [turnE_nx, turnE_cnt, rd_0, rd_o, rd_of, rd_s, gO_0, gO_s, gO2_0, gO2_s, bp_nm, bp_tp, bps_nil, bps_cons, bp_eP, v_var, v_int, v_bool, v_str, v_none, v_glb, v_op, v_ch, v_ch3, v_neg, v_not, v_and, v_or, v_b1, v_ife, v_tup, v_lst, v_idx, v_bi, v_call, v_callB, v_rev, v_cut, v_p0, v_p1, vs_nil, vs_cons, f_0, f_1, i_s, i_r1, i_r2, i_e, i_z, v_lc, v_lc2, v_ssc, v_ssc2, v_sst, v_lset, x_nil, x_cons, t_nx, t_brk, t_cnt, t_ret, x_asgF, x_asgT, x_asgp, x_par, sets_nil, sets_cons, x_app, x_ext, x_exp, x_own2, x_newT, x_ret, x_ite, x_for, x_whl, x_frz, fz_o, fz_o2, fz_v, e_rF, e_rT, e_nF, sq_l, sq_t, sx_l, sx_t, sl_l, sq_L, sx_L, sl_L, sq_Ps, sx_Ps, sl_Ps, sq_G, sx_G, sl_G, sx_P, ai, ab, at0, at1, p_add, p_sub, p_lt, p_le, p_gt, p_ge, p_isB, p_isnB, p_isN, p_isnN, y_len, y_lenT, y_lenL, y_lenPs, y_lenG, y_int, y_intB, y_abs, y_min2, y_max2, y_gcd, y_list, y_listL, y_listPs, y_all, wipeE, frE, bib, Option.bind_some, Option.map_some, List.getD_cons_zero, List.getD_cons_succ, List.set_cons_zero, List.set_cons_succ, List.map_cons, List.map_nil, List.length_cons, List.length_nil, List.replicate, List.cons_append, List.nil_append, if_true, if_false, Bool.false_eq_true, Nat.reduceSub, Nat.reduceAdd, Nat.reduceLeDiff, h1, h2, o_inL', decide_false]
    · simp [h1, h2, ab]
    · simp [h1, h2, ab]
theorem a_asc (N k : Nat) (g : List Nat) (e0 e1 e2 e3 e4 e5 e6 : Ent) : lcGo (elOf (CG N k) [e0, e1, e2, e3, e4, e5, e6, .no, .no] (.op .lt (.var 7) (.var 8)) (.tp (.cons (.nm 7) (.cons (.nm 8) .nil))) .nil [7, 8]) (zipD (g.map eN) ((g.drop 1).map eN)) = some (((g.zip (g.drop 1)).map fun p => decide (p.1 < p.2)).map .bool) := by
  rw [zip_map, lcGo_map _ _ .bool (fun p => decide (p.1 < p.2)) (g.zip (g.drop 1)) fun p hp => ?_]
  simp (implicitDefEqProofs := false) only [elOf, turnE_nx, turnE_cnt, rd_0, rd_o, rd_of, rd_s, gO_0, gO_s, gO2_0, gO2_s, bp_nm, bp_tp, bps_nil, bps_cons, bp_eP, v_var, v_int, v_bool, v_str, v_none, v_glb, v_op, v_ch, v_ch3, v_neg, v_not, v_and, v_or, v_b1, v_ife, v_tup, v_lst, v_idx, v_bi, v_call, v_callB, v_rev, v_cut, v_p0, v_p1, vs_nil, vs_cons, f_0, f_1, i_s, i_r1, i_r2, i_e, i_z, v_lc, v_lc2, v_ssc, v_ssc2, v_sst, v_lset, x_nil, x_cons, t_nx, t_brk, t_cnt, t_ret, x_asgF, x_asgT, x_asgp, x_par, sets_nil, sets_cons, x_app, x_ext, x_exp, x_own2, x_newT, x_ret, x_ite, x_for, x_whl, x_frz, fz_o, fz_o2, fz_v, e_rF, e_rT, e_nF, sq_l, sq_t, sx_l, sx_t, sl_l, sq_L, sx_L, sl_L, sq_Ps, sx_Ps, sl_Ps, sq_G, sx_G, sl_G, sx_P, ai, ab, at0, at1, p_add, p_sub, p_lt, p_le, p_gt, p_ge, p_isB, p_isnB, p_isN, p_isnN, y_len, y_lenT, y_lenL, y_lenPs, y_lenG, y_int, y_intB, y_abs, y_min2, y_max2, y_gcd, y_list, y_listL, y_listPs, y_all, wipeE, frE, bib, Option.bind_some, Option.map_some, List.getD_cons_zero, List.getD_cons_succ, List.set_cons_zero, List.set_cons_succ, List.map_cons, List.map_nil, List.length_cons, List.length_nil, List.replicate, List.cons_append, List.nil_append, if_true, if_false, Bool.false_eq_true, Nat.reduceSub, Nat.reduceAdd, Nat.reduceLeDiff, eN]
  congr 3
  exact decide_eq_decide.mpr (by omega)
theorem a_lst (N k : Nat) (told : List (List Nat)) (e0 e1 e3 e4 e5 e6 e7 e8 : Ent) : lcGo (elOf (CG N k) [e0, e1, .no, e3, e4, e5, e6, e7, e8] (.bi .list (.cons (.var 2) .nil)) (.nm 2) .nil [2]) (told.map eL) = some (told.map eL) := by
  rw [lcGo_map _ eL eL (fun v => v) told fun v _ => ?_]
  · rw [List.map_id']
  · simp (implicitDefEqProofs := false) only [elOf, turnE_nx, turnE_cnt, rd_0, rd_o, rd_of, rd_s, gO_0, gO_s, gO2_0, gO2_s, bp_nm, bp_tp, bps_nil, bps_cons, bp_eP, v_var, v_int, v_bool, v_str, v_none, v_glb, v_op, v_ch, v_ch3, v_neg, v_not, v_and, v_or, v_b1, v_ife, v_tup, v_lst, v_idx, v_bi, v_call, v_callB, v_rev, v_cut, v_p0, v_p1, vs_nil, vs_cons, f_0, f_1, i_s, i_r1, i_r2, i_e, i_z, v_lc, v_lc2, v_ssc, v_ssc2, v_sst, v_lset, x_nil, x_cons, t_nx, t_brk, t_cnt, t_ret, x_asgF, x_asgT, x_asgp, x_par, sets_nil, sets_cons, x_app, x_ext, x_exp, x_own2, x_newT, x_ret, x_ite, x_for, x_whl, x_frz, fz_o, fz_o2, fz_v, e_rF, e_rT, e_nF, sq_l, sq_t, sx_l, sx_t, sl_l, sq_L, sx_L, sl_L, sq_Ps, sx_Ps, sl_Ps, sq_G, sx_G, sl_G, sx_P, ai, ab, at0, at1, p_add, p_sub, p_lt, p_le, p_gt, p_ge, p_isB, p_isnB, p_isN, p_isnN, y_len, y_lenT, y_lenL, y_lenPs, y_lenG, y_int, y_intB, y_abs, y_min2, y_max2, y_gcd, y_list, y_listL, y_listPs, y_all, wipeE, frE, bib, Option.bind_some, Option.map_some, List.getD_cons_zero, List.getD_cons_succ, List.set_cons_zero, List.set_cons_succ, List.map_cons, List.map_nil, List.length_cons, List.length_nil, List.replicate, List.cons_append, List.nil_append, if_true, if_false, Bool.false_eq_true, Nat.reduceSub, Nat.reduceAdd, Nat.reduceLeDiff]
end K19

set_option Elab.async false
set_option linter.all false
set_option maxRecDepth 100000
set_option maxHeartbeats 4000000
namespace K19
open PySem Pv
theorem all_id {α : Type} (l : List α) (f : α → Bool) : ((l.map f).all id) = l.all f := by
  rw [List.all_map]; rfl
theorem dd_lt {n : Nat} {l : List Nat} (h : l.all (fun v => decide (v < n)) = true) (hn : n ≤ 8) : (dedupN l).length ≤ 8 := by
  have := nd_len (f := dedupN l) (g := List.range n) ⟨dedupN_nodup l, fun v hv => List.mem_range.mpr (of_decide_eq_true (List.all_eq_true.mp h v (dedupN_mem.mp hv)))⟩
  rw [List.length_range] at this
  omega
theorem len4 (n : Nat) : decide ((n : Int) = 4) = decide (n = 4) := decide_eq_decide.mpr (by omega)
theorem r_are_four_sets (N k n : Nat) (ps : List (Nat × Nat)) (h1 : 1 ≤ n) (h2 : n ≤ 8) (h3 : ps.length ≤ 14) (h4 : ∀ p ∈ ps, p.1 < p.2 ∧ p.2 < n) (told : List (List Nat)) (ht : told.length < 90) (hf : told.flatten.length < 900) (hm : ∀ g ∈ told, g.length < 900) (b : Bool) (hw : afM N n ps told = some b) : cal (tabOf fds) N (k + 4) "are_four_sets" [gridD n ps, eG told] = some (.bool b) := by
  rw [c_are_four_sets _ _ _ rfl, b_are_four_sets]
  have r1 := r_check N k n ps h1 h2 h3 h4
  have r2 : cal (tabOf fds) N (k + 3) "lines_of" [gridD n ps] = some (ePs ps) := r_lines N (k + 2) n ps (by omega)
  have r3 : cal (tabOf fds) N (k + 3) "pairs_of" [eG told, ePs ps] = some (ePs (pof told ps)) := r_pairs_of N (k + 2) told ps (by omega) (by omega)
  have r4 : ∀ g v r, joinM N (insN g ps) v = some r → cal (tabOf fds) N (k + 3) "joined_with" [ePs (insN g ps), .int v] = some (eL r) := fun g v r hr => r_joined_with N (k + 2) (insN g ps) v (by
    have : (insN g ps).length ≤ ps.length := List.length_filter_le _ _
    omega) r hr
  have sx : seqIx (gridD n ps) = some [.int n, .list (ps.zipIdx.map lineD)] := rfl
  have s1 := a_lens N (k + 3) told (.val (gridD n ps)) (.val (eG told))
  have s2 := a_flat N (k + 3) told (.val (gridD n ps)) (.val (eG told))
  have s3 := a_rng N (k + 3) n told.flatten ps (.val (eG told))
  have s4 := a_id N (k + 3) told.flatten (.val (gridD n ps)) (.val (eG told))
  have s5 := fun g => a_ins N (k + 3) g ps (.val (gridD n ps)) (.val (eG told))
  have s6 := fun g => a_asc N (k + 3) g (.val (gridD n ps)) (.val (eG told))
  have s7 := a_lst N (k + 3) told (.val (gridD n ps)) (.val (eG told))
  revert r1 r2 r3 r4 s1 s2 s3 s4 s5 s6 s7
  unfold CG
  generalize cal (tabOf fds) N (k + 3) = C
  intro r1 r2 r3 r4 s1 s2 s3 s4 s5 s6 s7
  have ln : ∀ l : List Nat, PyData.list (l.map eN) = eL l := fun _ => rfl
  have lg : ∀ gs : List (List Nat), PyData.list (gs.map eL) = eG gs := fun _ => rfl
  have lpp : ∀ l : List (Nat × Nat), PyData.list (l.map eP) = ePs l := fun _ => rfl
  unfold afM at hw
  simp (implicitDefEqProofs := false) only [turnE_nx, turnE_cnt, rd_0, rd_o, rd_of, rd_s, gO_0, gO_s, gO2_0, gO2_s, bp_nm, bp_tp, bps_nil, bps_cons, bp_eP, v_var, v_int, v_bool, v_str, v_none, v_glb, v_op, v_ch, v_ch3, v_neg, v_not, v_and, v_or, v_b1, v_ife, v_tup, v_lst, v_idx, v_bi, v_call, v_callB, v_rev, v_cut, v_p0, v_p1, vs_nil, vs_cons, f_0, f_1, i_s, i_r1, i_r2, i_e, i_z, v_lc, v_lc2, v_ssc, v_ssc2, v_sst, v_lset, x_nil, x_cons, t_nx, t_brk, t_cnt, t_ret, x_asgF, x_asgT, x_asgp, x_par, sets_nil, sets_cons, x_app, x_ext, x_exp, x_own2, x_newT, x_ret, x_ite, x_for, x_whl, x_frz, fz_o, fz_o2, fz_v, e_rF, e_rT, e_nF, sq_l, sq_t, sx_l, sx_t, sl_l, sq_L, sx_L, sl_L, sq_Ps, sx_Ps, sl_Ps, sq_G, sx_G, sl_G, sx_P, ai, ab, at0, at1, p_add, p_sub, p_lt, p_le, p_gt, p_ge, p_isB, p_isnB, p_isN, p_isnN, y_len, y_lenT, y_lenL, y_lenPs, y_lenG, y_int, y_intB, y_abs, y_min2, y_max2, y_gcd, y_list, y_listL, y_listPs, y_all, wipeE, frE, bib, Option.bind_some, Option.map_some, List.getD_cons_zero, List.getD_cons_succ, List.set_cons_zero, List.set_cons_succ, List.map_cons, List.map_nil, List.length_cons, List.length_nil, List.replicate, List.cons_append, List.nil_append, if_true, if_false, Bool.false_eq_true, Nat.reduceSub, Nat.reduceAdd, Nat.reduceLeDiff, r1, o_neI, len4]
  by_cases c1 : told.length = 4
  · have e14 : decide (told.length = 4) = true := decide_eq_true c1
    simp (implicitDefEqProofs := false) only [turnE_nx, turnE_cnt, rd_0, rd_o, rd_of, rd_s, gO_0, gO_s, gO2_0, gO2_s, bp_nm, bp_tp, bps_nil, bps_cons, bp_eP, v_var, v_int, v_bool, v_str, v_none, v_glb, v_op, v_ch, v_ch3, v_neg, v_not, v_and, v_or, v_b1, v_ife, v_tup, v_lst, v_idx, v_bi, v_call, v_callB, v_rev, v_cut, v_p0, v_p1, vs_nil, vs_cons, f_0, f_1, i_s, i_r1, i_r2, i_e, i_z, v_lc, v_lc2, v_ssc, v_ssc2, v_sst, v_lset, x_nil, x_cons, t_nx, t_brk, t_cnt, t_ret, x_asgF, x_asgT, x_asgp, x_par, sets_nil, sets_cons, x_app, x_ext, x_exp, x_own2, x_newT, x_ret, x_ite, x_for, x_whl, x_frz, fz_o, fz_o2, fz_v, e_rF, e_rT, e_nF, sq_l, sq_t, sx_l, sx_t, sl_l, sq_L, sx_L, sl_L, sq_Ps, sx_Ps, sl_Ps, sq_G, sx_G, sl_G, sx_P, ai, ab, at0, at1, p_add, p_sub, p_lt, p_le, p_gt, p_ge, p_isB, p_isnB, p_isN, p_isnN, y_len, y_lenT, y_lenL, y_lenPs, y_lenG, y_int, y_intB, y_abs, y_min2, y_max2, y_gcd, y_list, y_listL, y_listPs, y_all, wipeE, frE, bib, Option.bind_some, Option.map_some, List.getD_cons_zero, List.getD_cons_succ, List.set_cons_zero, List.set_cons_succ, List.map_cons, List.map_nil, List.length_cons, List.length_nil, List.replicate, List.cons_append, List.nil_append, if_true, if_false, Bool.false_eq_true, Nat.reduceSub, Nat.reduceAdd, Nat.reduceLeDiff, c1, decide_true, Bool.not_true, s1, List.length_map, if_lt (show 4 < 1000000 by decide), y_all, all_id]
    rw [e14] at hw
    simp only [Bool.not_true, Bool.false_or] at hw
    by_cases c2 : (told.all fun g => decide (0 < g.length)) = true
    · rw [c2] at hw
      simp only [Bool.not_true, Bool.false_eq_true, if_false] at hw
      simp (implicitDefEqProofs := false) only [turnE_nx, turnE_cnt, rd_0, rd_o, rd_of, rd_s, gO_0, gO_s, gO2_0, gO2_s, bp_nm, bp_tp, bps_nil, bps_cons, bp_eP, v_var, v_int, v_bool, v_str, v_none, v_glb, v_op, v_ch, v_ch3, v_neg, v_not, v_and, v_or, v_b1, v_ife, v_tup, v_lst, v_idx, v_bi, v_call, v_callB, v_rev, v_cut, v_p0, v_p1, vs_nil, vs_cons, f_0, f_1, i_s, i_r1, i_r2, i_e, i_z, v_lc, v_lc2, v_ssc, v_ssc2, v_sst, v_lset, x_nil, x_cons, t_nx, t_brk, t_cnt, t_ret, x_asgF, x_asgT, x_asgp, x_par, sets_nil, sets_cons, x_app, x_ext, x_exp, x_own2, x_newT, x_ret, x_ite, x_for, x_whl, x_frz, fz_o, fz_o2, fz_v, e_rF, e_rT, e_nF, sq_l, sq_t, sx_l, sx_t, sl_l, sq_L, sx_L, sl_L, sq_Ps, sx_Ps, sl_Ps, sq_G, sx_G, sl_G, sx_P, ai, ab, at0, at1, p_add, p_sub, p_lt, p_le, p_gt, p_ge, p_isB, p_isnB, p_isN, p_isnN, y_len, y_lenT, y_lenL, y_lenPs, y_lenG, y_int, y_intB, y_abs, y_min2, y_max2, y_gcd, y_list, y_listL, y_listPs, y_all, wipeE, frE, bib, Option.bind_some, Option.map_some, List.getD_cons_zero, List.getD_cons_succ, List.set_cons_zero, List.set_cons_succ, List.map_cons, List.map_nil, List.length_cons, List.length_nil, List.replicate, List.cons_append, List.nil_append, if_true, if_false, Bool.false_eq_true, Nat.reduceSub, Nat.reduceAdd, Nat.reduceLeDiff, c2, Bool.not_true, s2, List.length_map, if_lt (show told.flatten.length < 1000000 by omega), ln, s3, y_all, all_id]
      by_cases c3 : (told.flatten.all fun v => decide (v < n)) = true
      · rw [c3] at hw
        simp only [Bool.not_true, Bool.false_or] at hw
        have d8 := dd_lt c3 h2
        have sl : (sortN (dedupN told.flatten)).length = (dedupN told.flatten).length := (sortN_perm _).length_eq
        simp (implicitDefEqProofs := false) only [turnE_nx, turnE_cnt, rd_0, rd_o, rd_of, rd_s, gO_0, gO_s, gO2_0, gO2_s, bp_nm, bp_tp, bps_nil, bps_cons, bp_eP, v_var, v_int, v_bool, v_str, v_none, v_glb, v_op, v_ch, v_ch3, v_neg, v_not, v_and, v_or, v_b1, v_ife, v_tup, v_lst, v_idx, v_bi, v_call, v_callB, v_rev, v_cut, v_p0, v_p1, vs_nil, vs_cons, f_0, f_1, i_s, i_r1, i_r2, i_e, i_z, v_lc, v_lc2, v_ssc, v_ssc2, v_sst, v_lset, x_nil, x_cons, t_nx, t_brk, t_cnt, t_ret, x_asgF, x_asgT, x_asgp, x_par, sets_nil, sets_cons, x_app, x_ext, x_exp, x_own2, x_newT, x_ret, x_ite, x_for, x_whl, x_frz, fz_o, fz_o2, fz_v, e_rF, e_rT, e_nF, sq_l, sq_t, sx_l, sx_t, sl_l, sq_L, sx_L, sl_L, sq_Ps, sx_Ps, sl_Ps, sq_G, sx_G, sl_G, sx_P, ai, ab, at0, at1, p_add, p_sub, p_lt, p_le, p_gt, p_ge, p_isB, p_isnB, p_isN, p_isnN, y_len, y_lenT, y_lenL, y_lenPs, y_lenG, y_int, y_intB, y_abs, y_min2, y_max2, y_gcd, y_list, y_listL, y_listPs, y_all, wipeE, frE, bib, Option.bind_some, Option.map_some, List.getD_cons_zero, List.getD_cons_succ, List.set_cons_zero, List.set_cons_succ, List.map_cons, List.map_nil, List.length_cons, List.length_nil, List.replicate, List.cons_append, List.nil_append, if_true, if_false, Bool.false_eq_true, Nat.reduceSub, Nat.reduceAdd, Nat.reduceLeDiff, c3, Bool.not_true, s4, List.length_map, if_pos (show told.flatten.length < 1000 by omega)]
        rw [setI_N _ (by omega)]
        simp (implicitDefEqProofs := false) only [turnE_nx, turnE_cnt, rd_0, rd_o, rd_of, rd_s, gO_0, gO_s, gO2_0, gO2_s, bp_nm, bp_tp, bps_nil, bps_cons, bp_eP, v_var, v_int, v_bool, v_str, v_none, v_glb, v_op, v_ch, v_ch3, v_neg, v_not, v_and, v_or, v_b1, v_ife, v_tup, v_lst, v_idx, v_bi, v_call, v_callB, v_rev, v_cut, v_p0, v_p1, vs_nil, vs_cons, f_0, f_1, i_s, i_r1, i_r2, i_e, i_z, v_lc, v_lc2, v_ssc, v_ssc2, v_sst, v_lset, x_nil, x_cons, t_nx, t_brk, t_cnt, t_ret, x_asgF, x_asgT, x_asgp, x_par, sets_nil, sets_cons, x_app, x_ext, x_exp, x_own2, x_newT, x_ret, x_ite, x_for, x_whl, x_frz, fz_o, fz_o2, fz_v, e_rF, e_rT, e_nF, sq_l, sq_t, sx_l, sx_t, sl_l, sq_L, sx_L, sl_L, sq_Ps, sx_Ps, sl_Ps, sq_G, sx_G, sl_G, sx_P, ai, ab, at0, at1, p_add, p_sub, p_lt, p_le, p_gt, p_ge, p_isB, p_isnB, p_isN, p_isnN, y_len, y_lenT, y_lenL, y_lenPs, y_lenG, y_int, y_intB, y_abs, y_min2, y_max2, y_gcd, y_list, y_listL, y_listPs, y_all, wipeE, frE, bib, Option.bind_some, Option.map_some, List.getD_cons_zero, List.getD_cons_succ, List.set_cons_zero, List.set_cons_succ, List.map_cons, List.map_nil, List.length_cons, List.length_nil, List.replicate, List.cons_append, List.nil_append, if_true, if_false, Bool.false_eq_true, Nat.reduceSub, Nat.reduceAdd, Nat.reduceLeDiff, sl]
        by_cases c4 : (dedupN told.flatten).length < told.flatten.length
        · rw [decide_eq_true c4] at hw
          cases hw
          simp (implicitDefEqProofs := false) only [turnE_nx, turnE_cnt, rd_0, rd_o, rd_of, rd_s, gO_0, gO_s, gO2_0, gO2_s, bp_nm, bp_tp, bps_nil, bps_cons, bp_eP, v_var, v_int, v_bool, v_str, v_none, v_glb, v_op, v_ch, v_ch3, v_neg, v_not, v_and, v_or, v_b1, v_ife, v_tup, v_lst, v_idx, v_bi, v_call, v_callB, v_rev, v_cut, v_p0, v_p1, vs_nil, vs_cons, f_0, f_1, i_s, i_r1, i_r2, i_e, i_z, v_lc, v_lc2, v_ssc, v_ssc2, v_sst, v_lset, x_nil, x_cons, t_nx, t_brk, t_cnt, t_ret, x_asgF, x_asgT, x_asgp, x_par, sets_nil, sets_cons, x_app, x_ext, x_exp, x_own2, x_newT, x_ret, x_ite, x_for, x_whl, x_frz, fz_o, fz_o2, fz_v, e_rF, e_rT, e_nF, sq_l, sq_t, sx_l, sx_t, sl_l, sq_L, sx_L, sl_L, sq_Ps, sx_Ps, sl_Ps, sq_G, sx_G, sl_G, sx_P, ai, ab, at0, at1, p_add, p_sub, p_lt, p_le, p_gt, p_ge, p_isB, p_isnB, p_isN, p_isnN, y_len, y_lenT, y_lenL, y_lenPs, y_lenG, y_int, y_intB, y_abs, y_min2, y_max2, y_gcd, y_list, y_listL, y_listPs, y_all, wipeE, frE, bib, Option.bind_some, Option.map_some, List.getD_cons_zero, List.getD_cons_succ, List.set_cons_zero, List.set_cons_succ, List.map_cons, List.map_nil, List.length_cons, List.length_nil, List.replicate, List.cons_append, List.nil_append, if_true, if_false, Bool.false_eq_true, Nat.reduceSub, Nat.reduceAdd, Nat.reduceLeDiff, decide_eq_true (show ((dedupN told.flatten).length : Int) < (told.flatten.length : Int) by omega)]
        · rw [decide_eq_false c4] at hw
          simp only [Bool.false_eq_true, if_false] at hw
          obtain ⟨o, hv, rfl⟩ := Option.map_eq_some_iff.mp hw
          have lp := fun f a b => forGo_fb f [2, 6] eL [.val (gridD n ps), .val (eG told), .no, .val (eL told.flatten), .no, .val (ePs ps), .no, .no, .no] (badg N ps) (fun g => (.ret false (.bool false), [.val (gridD n ps), .val (eG told), .val (eL g), .val (eL told.flatten), .no, .val (ePs ps), .val (ePs (insN g ps)), .no, .no])) (fun p => ⟨_, _, rfl⟩) told o a b hv
          simp (implicitDefEqProofs := false) only [turnE_nx, turnE_cnt, rd_0, rd_o, rd_of, rd_s, gO_0, gO_s, gO2_0, gO2_s, bp_nm, bp_tp, bps_nil, bps_cons, bp_eP, v_var, v_int, v_bool, v_str, v_none, v_glb, v_op, v_ch, v_ch3, v_neg, v_not, v_and, v_or, v_b1, v_ife, v_tup, v_lst, v_idx, v_bi, v_call, v_callB, v_rev, v_cut, v_p0, v_p1, vs_nil, vs_cons, f_0, f_1, i_s, i_r1, i_r2, i_e, i_z, v_lc, v_lc2, v_ssc, v_ssc2, v_sst, v_lset, x_nil, x_cons, t_nx, t_brk, t_cnt, t_ret, x_asgF, x_asgT, x_asgp, x_par, sets_nil, sets_cons, x_app, x_ext, x_exp, x_own2, x_newT, x_ret, x_ite, x_for, x_whl, x_frz, fz_o, fz_o2, fz_v, e_rF, e_rT, e_nF, sq_l, sq_t, sx_l, sx_t, sl_l, sq_L, sx_L, sl_L, sq_Ps, sx_Ps, sl_Ps, sq_G, sx_G, sl_G, sx_P, ai, ab, at0, at1, p_add, p_sub, p_lt, p_le, p_gt, p_ge, p_isB, p_isnB, p_isN, p_isnN, y_len, y_lenT, y_lenL, y_lenPs, y_lenG, y_int, y_intB, y_abs, y_min2, y_max2, y_gcd, y_list, y_listL, y_listPs, y_all, wipeE, frE, bib, Option.bind_some, Option.map_some, List.getD_cons_zero, List.getD_cons_succ, List.set_cons_zero, List.set_cons_succ, List.map_cons, List.map_nil, List.length_cons, List.length_nil, List.replicate, List.cons_append, List.nil_append, if_true, if_false, Bool.false_eq_true, Nat.reduceSub, Nat.reduceAdd, Nat.reduceLeDiff, decide_eq_false (show ¬ ((dedupN told.flatten).length : Int) < (told.flatten.length : Int) by omega), r2]
          rw [lp]
          · cases o with
            | some g => simp (implicitDefEqProofs := false) only [turnE_nx, turnE_cnt, rd_0, rd_o, rd_of, rd_s, gO_0, gO_s, gO2_0, gO2_s, bp_nm, bp_tp, bps_nil, bps_cons, bp_eP, v_var, v_int, v_bool, v_str, v_none, v_glb, v_op, v_ch, v_ch3, v_neg, v_not, v_and, v_or, v_b1, v_ife, v_tup, v_lst, v_idx, v_bi, v_call, v_callB, v_rev, v_cut, v_p0, v_p1, vs_nil, vs_cons, f_0, f_1, i_s, i_r1, i_r2, i_e, i_z, v_lc, v_lc2, v_ssc, v_ssc2, v_sst, v_lset, x_nil, x_cons, t_nx, t_brk, t_cnt, t_ret, x_asgF, x_asgT, x_asgp, x_par, sets_nil, sets_cons, x_app, x_ext, x_exp, x_own2, x_newT, x_ret, x_ite, x_for, x_whl, x_frz, fz_o, fz_o2, fz_v, e_rF, e_rT, e_nF, sq_l, sq_t, sx_l, sx_t, sl_l, sq_L, sx_L, sl_L, sq_Ps, sx_Ps, sl_Ps, sq_G, sx_G, sl_G, sx_P, ai, ab, at0, at1, p_add, p_sub, p_lt, p_le, p_gt, p_ge, p_isB, p_isnB, p_isN, p_isnN, y_len, y_lenT, y_lenL, y_lenPs, y_lenG, y_int, y_intB, y_abs, y_min2, y_max2, y_gcd, y_list, y_listL, y_listPs, y_all, wipeE, frE, bib, Option.bind_some, Option.map_some, List.getD_cons_zero, List.getD_cons_succ, List.set_cons_zero, List.set_cons_succ, List.map_cons, List.map_nil, List.length_cons, List.length_nil, List.replicate, List.cons_append, List.nil_append, if_true, if_false, Bool.false_eq_true, Nat.reduceSub, Nat.reduceAdd, Nat.reduceLeDiff]
            | none =>
              simp (implicitDefEqProofs := false) only [turnE_nx, turnE_cnt, rd_0, rd_o, rd_of, rd_s, gO_0, gO_s, gO2_0, gO2_s, bp_nm, bp_tp, bps_nil, bps_cons, bp_eP, v_var, v_int, v_bool, v_str, v_none, v_glb, v_op, v_ch, v_ch3, v_neg, v_not, v_and, v_or, v_b1, v_ife, v_tup, v_lst, v_idx, v_bi, v_call, v_callB, v_rev, v_cut, v_p0, v_p1, vs_nil, vs_cons, f_0, f_1, i_s, i_r1, i_r2, i_e, i_z, v_lc, v_lc2, v_ssc, v_ssc2, v_sst, v_lset, x_nil, x_cons, t_nx, t_brk, t_cnt, t_ret, x_asgF, x_asgT, x_asgp, x_par, sets_nil, sets_cons, x_app, x_ext, x_exp, x_own2, x_newT, x_ret, x_ite, x_for, x_whl, x_frz, fz_o, fz_o2, fz_v, e_rF, e_rT, e_nF, sq_l, sq_t, sx_l, sx_t, sl_l, sq_L, sx_L, sl_L, sq_Ps, sx_Ps, sl_Ps, sq_G, sx_G, sl_G, sx_P, ai, ab, at0, at1, p_add, p_sub, p_lt, p_le, p_gt, p_ge, p_isB, p_isnB, p_isN, p_isnN, y_len, y_lenT, y_lenL, y_lenPs, y_lenG, y_int, y_intB, y_abs, y_min2, y_max2, y_gcd, y_list, y_listL, y_listPs, y_all, wipeE, frE, bib, Option.bind_some, Option.map_some, List.getD_cons_zero, List.getD_cons_succ, List.set_cons_zero, List.set_cons_succ, List.map_cons, List.map_nil, List.length_cons, List.length_nil, List.replicate, List.cons_append, List.nil_append, if_true, if_false, Bool.false_eq_true, Nat.reduceSub, Nat.reduceAdd, Nat.reduceLeDiff, s7, List.length_map, if_lt (show told.length < 1000000 by omega), lg, r3, o_eqI]
              congr 2
              exact decide_eq_decide.mpr (by omega)
          · intro g hg hb
            have g0 : 0 < g.length := of_decide_eq_true (List.all_eq_true.mp c2 g hg)
            have gm := hm g hg
            have il : (insN g ps).length ≤ ps.length := List.length_filter_le _ _
            have c5 : cutD (g.map eN) (some 1) none = (g.drop 1).map eN := cut_from eN g 1
            have ha : L2.atI (g.map eN) 0 = some (.int (g.getD 0 0 : Nat)) := at_map eN g 0 (by rw [List.getD_eq_getElem?_getD, List.getElem?_eq_getElem g0]; rfl)
            have zl : (g.zip (g.drop 1)).length < 1000000 := by rw [List.length_zip]; omega
            have za : ((g.zip (g.drop 1)).all fun p => decide (p.1 < p.2)) = ascB g := rfl
            unfold badg at hb
            simp (implicitDefEqProofs := false) only [turnE_nx, turnE_cnt, rd_0, rd_o, rd_of, rd_s, gO_0, gO_s, gO2_0, gO2_s, bp_nm, bp_tp, bps_nil, bps_cons, bp_eP, v_var, v_int, v_bool, v_str, v_none, v_glb, v_op, v_ch, v_ch3, v_neg, v_not, v_and, v_or, v_b1, v_ife, v_tup, v_lst, v_idx, v_bi, v_call, v_callB, v_rev, v_cut, v_p0, v_p1, vs_nil, vs_cons, f_0, f_1, i_s, i_r1, i_r2, i_e, i_z, v_lc, v_lc2, v_ssc, v_ssc2, v_sst, v_lset, x_nil, x_cons, t_nx, t_brk, t_cnt, t_ret, x_asgF, x_asgT, x_asgp, x_par, sets_nil, sets_cons, x_app, x_ext, x_exp, x_own2, x_newT, x_ret, x_ite, x_for, x_whl, x_frz, fz_o, fz_o2, fz_v, e_rF, e_rT, e_nF, sq_l, sq_t, sx_l, sx_t, sl_l, sq_L, sx_L, sl_L, sq_Ps, sx_Ps, sl_Ps, sq_G, sx_G, sl_G, sx_P, ai, ab, at0, at1, p_add, p_sub, p_lt, p_le, p_gt, p_ge, p_isB, p_isnB, p_isN, p_isnN, y_len, y_lenT, y_lenL, y_lenPs, y_lenG, y_int, y_intB, y_abs, y_min2, y_max2, y_gcd, y_list, y_listL, y_listPs, y_all, wipeE, frE, bib, Option.bind_some, Option.map_some, List.getD_cons_zero, List.getD_cons_succ, List.set_cons_zero, List.set_cons_succ, List.map_cons, List.map_nil, List.length_cons, List.length_nil, List.replicate, List.cons_append, List.nil_append, if_true, if_false, Bool.false_eq_true, Nat.reduceSub, Nat.reduceAdd, Nat.reduceLeDiff, s5, List.length_map, if_lt (show (insN g ps).length < 1000000 by omega), lpp, c5, s6, if_lt zl, y_all, all_id, za]
            by_cases c6 : ascB g = true
            · rw [if_pos c6] at hb
              obtain ⟨r, hr, he⟩ := Option.map_eq_some_iff.mp hb
              simp (implicitDefEqProofs := false) only [turnE_nx, turnE_cnt, rd_0, rd_o, rd_of, rd_s, gO_0, gO_s, gO2_0, gO2_s, bp_nm, bp_tp, bps_nil, bps_cons, bp_eP, v_var, v_int, v_bool, v_str, v_none, v_glb, v_op, v_ch, v_ch3, v_neg, v_not, v_and, v_or, v_b1, v_ife, v_tup, v_lst, v_idx, v_bi, v_call, v_callB, v_rev, v_cut, v_p0, v_p1, vs_nil, vs_cons, f_0, f_1, i_s, i_r1, i_r2, i_e, i_z, v_lc, v_lc2, v_ssc, v_ssc2, v_sst, v_lset, x_nil, x_cons, t_nx, t_brk, t_cnt, t_ret, x_asgF, x_asgT, x_asgp, x_par, sets_nil, sets_cons, x_app, x_ext, x_exp, x_own2, x_newT, x_ret, x_ite, x_for, x_whl, x_frz, fz_o, fz_o2, fz_v, e_rF, e_rT, e_nF, sq_l, sq_t, sx_l, sx_t, sl_l, sq_L, sx_L, sl_L, sq_Ps, sx_Ps, sl_Ps, sq_G, sx_G, sl_G, sx_P, ai, ab, at0, at1, p_add, p_sub, p_lt, p_le, p_gt, p_ge, p_isB, p_isnB, p_isN, p_isnN, y_len, y_lenT, y_lenL, y_lenPs, y_lenG, y_int, y_intB, y_abs, y_min2, y_max2, y_gcd, y_list, y_listL, y_listPs, y_all, wipeE, frE, bib, Option.bind_some, Option.map_some, List.getD_cons_zero, List.getD_cons_succ, List.set_cons_zero, List.set_cons_succ, List.map_cons, List.map_nil, List.length_cons, List.length_nil, List.replicate, List.cons_append, List.nil_append, if_true, if_false, Bool.false_eq_true, Nat.reduceSub, Nat.reduceAdd, Nat.reduceLeDiff, c6, Bool.not_true, ha, r4 g _ r hr, o_neL, he]
            · rw [if_neg c6] at hb
              simp (implicitDefEqProofs := false) only [turnE_nx, turnE_cnt, rd_0, rd_o, rd_of, rd_s, gO_0, gO_s, gO2_0, gO2_s, bp_nm, bp_tp, bps_nil, bps_cons, bp_eP, v_var, v_int, v_bool, v_str, v_none, v_glb, v_op, v_ch, v_ch3, v_neg, v_not, v_and, v_or, v_b1, v_ife, v_tup, v_lst, v_idx, v_bi, v_call, v_callB, v_rev, v_cut, v_p0, v_p1, vs_nil, vs_cons, f_0, f_1, i_s, i_r1, i_r2, i_e, i_z, v_lc, v_lc2, v_ssc, v_ssc2, v_sst, v_lset, x_nil, x_cons, t_nx, t_brk, t_cnt, t_ret, x_asgF, x_asgT, x_asgp, x_par, sets_nil, sets_cons, x_app, x_ext, x_exp, x_own2, x_newT, x_ret, x_ite, x_for, x_whl, x_frz, fz_o, fz_o2, fz_v, e_rF, e_rT, e_nF, sq_l, sq_t, sx_l, sx_t, sl_l, sq_L, sx_L, sl_L, sq_Ps, sx_Ps, sl_Ps, sq_G, sx_G, sl_G, sx_P, ai, ab, at0, at1, p_add, p_sub, p_lt, p_le, p_gt, p_ge, p_isB, p_isnB, p_isN, p_isnN, y_len, y_lenT, y_lenL, y_lenPs, y_lenG, y_int, y_intB, y_abs, y_min2, y_max2, y_gcd, y_list, y_listL, y_listPs, y_all, wipeE, frE, bib, Option.bind_some, Option.map_some, List.getD_cons_zero, List.getD_cons_succ, List.set_cons_zero, List.set_cons_succ, List.map_cons, List.map_nil, List.length_cons, List.length_nil, List.replicate, List.cons_append, List.nil_append, if_true, if_false, Bool.false_eq_true, Nat.reduceSub, Nat.reduceAdd, Nat.reduceLeDiff, Bool.eq_false_iff.mpr c6, Bool.not_false]
          · intro g hg hb
            have g0 : 0 < g.length := of_decide_eq_true (List.all_eq_true.mp c2 g hg)
            have gm := hm g hg
            have il : (insN g ps).length ≤ ps.length := List.length_filter_le _ _
            have c5 : cutD (g.map eN) (some 1) none = (g.drop 1).map eN := cut_from eN g 1
            have ha : L2.atI (g.map eN) 0 = some (.int (g.getD 0 0 : Nat)) := at_map eN g 0 (by rw [List.getD_eq_getElem?_getD, List.getElem?_eq_getElem g0]; rfl)
            have zl : (g.zip (g.drop 1)).length < 1000000 := by rw [List.length_zip]; omega
            have za : ((g.zip (g.drop 1)).all fun p => decide (p.1 < p.2)) = ascB g := rfl
            unfold badg at hb
            simp (implicitDefEqProofs := false) only [turnE_nx, turnE_cnt, rd_0, rd_o, rd_of, rd_s, gO_0, gO_s, gO2_0, gO2_s, bp_nm, bp_tp, bps_nil, bps_cons, bp_eP, v_var, v_int, v_bool, v_str, v_none, v_glb, v_op, v_ch, v_ch3, v_neg, v_not, v_and, v_or, v_b1, v_ife, v_tup, v_lst, v_idx, v_bi, v_call, v_callB, v_rev, v_cut, v_p0, v_p1, vs_nil, vs_cons, f_0, f_1, i_s, i_r1, i_r2, i_e, i_z, v_lc, v_lc2, v_ssc, v_ssc2, v_sst, v_lset, x_nil, x_cons, t_nx, t_brk, t_cnt, t_ret, x_asgF, x_asgT, x_asgp, x_par, sets_nil, sets_cons, x_app, x_ext, x_exp, x_own2, x_newT, x_ret, x_ite, x_for, x_whl, x_frz, fz_o, fz_o2, fz_v, e_rF, e_rT, e_nF, sq_l, sq_t, sx_l, sx_t, sl_l, sq_L, sx_L, sl_L, sq_Ps, sx_Ps, sl_Ps, sq_G, sx_G, sl_G, sx_P, ai, ab, at0, at1, p_add, p_sub, p_lt, p_le, p_gt, p_ge, p_isB, p_isnB, p_isN, p_isnN, y_len, y_lenT, y_lenL, y_lenPs, y_lenG, y_int, y_intB, y_abs, y_min2, y_max2, y_gcd, y_list, y_listL, y_listPs, y_all, wipeE, frE, bib, Option.bind_some, Option.map_some, List.getD_cons_zero, List.getD_cons_succ, List.set_cons_zero, List.set_cons_succ, List.map_cons, List.map_nil, List.length_cons, List.length_nil, List.replicate, List.cons_append, List.nil_append, if_true, if_false, Bool.false_eq_true, Nat.reduceSub, Nat.reduceAdd, Nat.reduceLeDiff, s5, List.length_map, if_lt (show (insN g ps).length < 1000000 by omega), lpp, c5, s6, if_lt zl, y_all, all_id, za]
            by_cases c6 : ascB g = true
            · rw [if_pos c6] at hb
              obtain ⟨r, hr, he⟩ := Option.map_eq_some_iff.mp hb
              simp (implicitDefEqProofs := false) only [turnE_nx, turnE_cnt, rd_0, rd_o, rd_of, rd_s, gO_0, gO_s, gO2_0, gO2_s, bp_nm, bp_tp, bps_nil, bps_cons, bp_eP, v_var, v_int, v_bool, v_str, v_none, v_glb, v_op, v_ch, v_ch3, v_neg, v_not, v_and, v_or, v_b1, v_ife, v_tup, v_lst, v_idx, v_bi, v_call, v_callB, v_rev, v_cut, v_p0, v_p1, vs_nil, vs_cons, f_0, f_1, i_s, i_r1, i_r2, i_e, i_z, v_lc, v_lc2, v_ssc, v_ssc2, v_sst, v_lset, x_nil, x_cons, t_nx, t_brk, t_cnt, t_ret, x_asgF, x_asgT, x_asgp, x_par, sets_nil, sets_cons, x_app, x_ext, x_exp, x_own2, x_newT, x_ret, x_ite, x_for, x_whl, x_frz, fz_o, fz_o2, fz_v, e_rF, e_rT, e_nF, sq_l, sq_t, sx_l, sx_t, sl_l, sq_L, sx_L, sl_L, sq_Ps, sx_Ps, sl_Ps, sq_G, sx_G, sl_G, sx_P, ai, ab, at0, at1, p_add, p_sub, p_lt, p_le, p_gt, p_ge, p_isB, p_isnB, p_isN, p_isnN, y_len, y_lenT, y_lenL, y_lenPs, y_lenG, y_int, y_intB, y_abs, y_min2, y_max2, y_gcd, y_list, y_listL, y_listPs, y_all, wipeE, frE, bib, Option.bind_some, Option.map_some, List.getD_cons_zero, List.getD_cons_succ, List.set_cons_zero, List.set_cons_succ, List.map_cons, List.map_nil, List.length_cons, List.length_nil, List.replicate, List.cons_append, List.nil_append, if_true, if_false, Bool.false_eq_true, Nat.reduceSub, Nat.reduceAdd, Nat.reduceLeDiff, c6, Bool.not_true, ha, r4 g _ r hr, o_neL, he]
            · rw [if_neg c6] at hb
              cases hb
      · rw [Bool.eq_false_iff.mpr c3] at hw
        cases hw
        simp (implicitDefEqProofs := false) only [turnE_nx, turnE_cnt, rd_0, rd_o, rd_of, rd_s, gO_0, gO_s, gO2_0, gO2_s, bp_nm, bp_tp, bps_nil, bps_cons, bp_eP, v_var, v_int, v_bool, v_str, v_none, v_glb, v_op, v_ch, v_ch3, v_neg, v_not, v_and, v_or, v_b1, v_ife, v_tup, v_lst, v_idx, v_bi, v_call, v_callB, v_rev, v_cut, v_p0, v_p1, vs_nil, vs_cons, f_0, f_1, i_s, i_r1, i_r2, i_e, i_z, v_lc, v_lc2, v_ssc, v_ssc2, v_sst, v_lset, x_nil, x_cons, t_nx, t_brk, t_cnt, t_ret, x_asgF, x_asgT, x_asgp, x_par, sets_nil, sets_cons, x_app, x_ext, x_exp, x_own2, x_newT, x_ret, x_ite, x_for, x_whl, x_frz, fz_o, fz_o2, fz_v, e_rF, e_rT, e_nF, sq_l, sq_t, sx_l, sx_t, sl_l, sq_L, sx_L, sl_L, sq_Ps, sx_Ps, sl_Ps, sq_G, sx_G, sl_G, sx_P, ai, ab, at0, at1, p_add, p_sub, p_lt, p_le, p_gt, p_ge, p_isB, p_isnB, p_isN, p_isnN, y_len, y_lenT, y_lenL, y_lenPs, y_lenG, y_int, y_intB, y_abs, y_min2, y_max2, y_gcd, y_list, y_listL, y_listPs, y_all, wipeE, frE, bib, Option.bind_some, Option.map_some, List.getD_cons_zero, List.getD_cons_succ, List.set_cons_zero, List.set_cons_succ, List.map_cons, List.map_nil, List.length_cons, List.length_nil, List.replicate, List.cons_append, List.nil_append, if_true, if_false, Bool.false_eq_true, Nat.reduceSub, Nat.reduceAdd, Nat.reduceLeDiff, Bool.eq_false_iff.mpr c3, Bool.not_false]
    · rw [Bool.eq_false_iff.mpr c2] at hw
      cases hw
      simp (implicitDefEqProofs := false) only [turnE_nx, turnE_cnt, rd_0, rd_o, rd_of, rd_s, gO_0, gO_s, gO2_0, gO2_s, bp_nm, bp_tp, bps_nil, bps_cons, bp_eP, v_var, v_int, v_bool, v_str, v_none, v_glb, v_op, v_ch, v_ch3, v_neg, v_not, v_and, v_or, v_b1, v_ife, v_tup, v_lst, v_idx, v_bi, v_call, v_callB, v_rev, v_cut, v_p0, v_p1, vs_nil, vs_cons, f_0, f_1, i_s, i_r1, i_r2, i_e, i_z, v_lc, v_lc2, v_ssc, v_ssc2, v_sst, v_lset, x_nil, x_cons, t_nx, t_brk, t_cnt, t_ret, x_asgF, x_asgT, x_asgp, x_par, sets_nil, sets_cons, x_app, x_ext, x_exp, x_own2, x_newT, x_ret, x_ite, x_for, x_whl, x_frz, fz_o, fz_o2, fz_v, e_rF, e_rT, e_nF, sq_l, sq_t, sx_l, sx_t, sl_l, sq_L, sx_L, sl_L, sq_Ps, sx_Ps, sl_Ps, sq_G, sx_G, sl_G, sx_P, ai, ab, at0, at1, p_add, p_sub, p_lt, p_le, p_gt, p_ge, p_isB, p_isnB, p_isN, p_isnN, y_len, y_lenT, y_lenL, y_lenPs, y_lenG, y_int, y_intB, y_abs, y_min2, y_max2, y_gcd, y_list, y_listL, y_listPs, y_all, wipeE, frE, bib, Option.bind_some, Option.map_some, List.getD_cons_zero, List.getD_cons_succ, List.set_cons_zero, List.set_cons_succ, List.map_cons, List.map_nil, List.length_cons, List.length_nil, List.replicate, List.cons_append, List.nil_append, if_true, if_false, Bool.false_eq_true, Nat.reduceSub, Nat.reduceAdd, Nat.reduceLeDiff, Bool.eq_false_iff.mpr c2, Bool.not_false]
  · have e1 : decide (told.length = 4) = false := decide_eq_false c1
    rw [e1] at hw
    cases hw
    simp (implicitDefEqProofs := false) only [turnE_nx, turnE_cnt, rd_0, rd_o, rd_of, rd_s, gO_0, gO_s, gO2_0, gO2_s, bp_nm, bp_tp, bps_nil, bps_cons, bp_eP, v_var, v_int, v_bool, v_str, v_none, v_glb, v_op, v_ch, v_ch3, v_neg, v_not, v_and, v_or, v_b1, v_ife, v_tup, v_lst, v_idx, v_bi, v_call, v_callB, v_rev, v_cut, v_p0, v_p1, vs_nil, vs_cons, f_0, f_1, i_s, i_r1, i_r2, i_e, i_z, v_lc, v_lc2, v_ssc, v_ssc2, v_sst, v_lset, x_nil, x_cons, t_nx, t_brk, t_cnt, t_ret, x_asgF, x_asgT, x_asgp, x_par, sets_nil, sets_cons, x_app, x_ext, x_exp, x_own2, x_newT, x_ret, x_ite, x_for, x_whl, x_frz, fz_o, fz_o2, fz_v, e_rF, e_rT, e_nF, sq_l, sq_t, sx_l, sx_t, sl_l, sq_L, sx_L, sl_L, sq_Ps, sx_Ps, sl_Ps, sq_G, sx_G, sl_G, sx_P, ai, ab, at0, at1, p_add, p_sub, p_lt, p_le, p_gt, p_ge, p_isB, p_isnB, p_isN, p_isnN, y_len, y_lenT, y_lenL, y_lenPs, y_lenG, y_int, y_intB, y_abs, y_min2, y_max2, y_gcd, y_list, y_listL, y_listPs, y_all, wipeE, frE, bib, Option.bind_some, Option.map_some, List.getD_cons_zero, List.getD_cons_succ, List.set_cons_zero, List.set_cons_succ, List.map_cons, List.map_nil, List.length_cons, List.length_nil, List.replicate, List.cons_append, List.nil_append, if_true, if_false, Bool.false_eq_true, Nat.reduceSub, Nat.reduceAdd, Nat.reduceLeDiff, e1, Bool.not_false]
end K19

set_option Elab.async false
set_option linter.all false
set_option maxRecDepth 100000
set_option maxHeartbeats 4000000
namespace K19
open PySem Pv
/-! ### _law_are_four -/
theorem lists_G : ∀ l : List (List Nat), toLists (l.map eL) = some (l.map fun g => g.map eN)
  | [] => rfl
  | x :: r => by
    rw [List.map_cons, List.map_cons]
    show (toLists (r.map eL)).map _ = _
    rw [lists_G r]; rfl
theorem sum_len : ∀ l : List (List Nat), ((l.map fun g => g.map eN).map List.length).sum = l.flatten.length
  | [] => rfl
  | x :: r => by
    rw [List.map_cons, List.map_cons, List.sum_cons, sum_len r, List.length_map, List.flatten_cons, List.length_append]
theorem flat_map : ∀ l : List (List Nat), (l.map fun g => g.map eN).flatten = l.flatten.map eN
  | [] => rfl
  | x :: r => by
    rw [List.map_cons, List.flatten_cons, flat_map r, List.flatten_cons, List.map_append]
theorem y_sumL (l : List (List Nat)) (h : l.flatten.length < 1000000) : bi .sumL [eG l, .list []] = some (eL l.flatten) := by
  show ((toLists (l.map eL)).bind fun ls => if ([] : List D).length + (ls.map List.length).sum ≤ line then some (PyData.list ([] ++ ls.flatten)) else none) = _
  rw [lists_G, Option.bind_some, sum_len, List.length_nil, Nat.zero_add, if_le h, List.nil_append, flat_map]
  rfl
theorem dd_len (l : List Nat) : (dedupI (l.map Int.ofNat)).length = (dedupN l).length := by
  rw [dedup_N, List.length_map]
def bad2 (g : List Nat) : Bool := decide (g = []) || !decide (sortN (dedupN g) = g)
def adjB (ps : List (Nat × Nat)) (g h : List Nat) : Bool := ps.any fun p => (decide (p.1 ∈ g) && decide (p.2 ∈ h)) || (decide (p.2 ∈ g) && decide (p.1 ∈ h))
def lafM (n : Nat) (ps : List (Nat × Nat)) (told : List (List Nat)) : Bool :=
  if (!decide (told.length = 4) || (told.any bad2 || (decide ((dedupN told.flatten).length < told.flatten.length) || told.flatten.any fun v => !decide (v < n)))) = true then false
  else if (told.any fun g => !ljM g ps) = true then false
  else ((List.range 4).find? fun s => ((List.range s).find? fun t => !adjB ps (told.getD s []) (told.getD t [])).isSome).isNone
theorem sh_mapG (l : List (List Nat)) : SeqAt.shaped (.list (l.map eL)) = true := sh_G l
theorem o_neG0 (l : List (List Nat)) : op2 .ne (.list (l.map eL)) (.list []) = some (.bool !l.isEmpty) := by
  rw [o_neNil (sh_mapG l)]
  cases l <;> rfl
theorem o_neL0 (l : List Nat) : op2 .ne (.list (l.map eN)) (.list []) = some (.bool !l.isEmpty) := by
  have := o_neL l []
  have h2 : op2 .ne (.list (l.map eN)) (.list []) = some (.bool (!decide (l = []))) := this
  rw [h2]
  cases l <;> rfl
theorem o_eqL0 (l : List Nat) : op2 .eq (eL l) (.list []) = some (.bool (decide (l = []))) := o_eqL l []
theorem emp_any {α : Type} (l : List α) (c : α → Bool) : (!(l.filter c).isEmpty) = l.any c := by
  induction l with
  | nil => rfl
  | cons a l ih =>
    rw [List.any_cons, List.filter_cons]
    cases h : c a with
    | true => simp
    | false => simp [ih]
theorem l_bad (N k : Nat) (told : List (List Nat)) (hm : ∀ g ∈ told, g.length < 60) (e0 e1 e2 e3 e5 e6 e7 e8 e9 : Ent) : lcGo (elOf (CG N k) [e0, e1, e2, e3, .no, e5, e6, e7, e8, e9] (.var 4) (.nm 4) (.cons (.bool false (.cons (.op .eq (.var 4) (.lst .nil)) (.cons (.op .ne (.sst (.var 4)) (.var 4)) .nil))) .nil) [4]) (told.map eL) = some ((told.filter bad2).map eL) := by
  rw [lcGo_filter _ eL bad2 told fun g hg => ?_]
  have gm := hm g hg
  have d := dedupN_le g
  simp (implicitDefEqProofs := false) only [elOf, turnE_nx, turnE_cnt, rd_0, rd_o, rd_of, rd_s, gO_0, gO_s, gO2_0, gO2_s, bp_nm, bp_tp, bps_nil, bps_cons, bp_eP, v_var, v_int, v_bool, v_str, v_none, v_glb, v_op, v_ch, v_ch3, v_neg, v_not, v_and, v_or, v_b1, v_ife, v_tup, v_lst, v_idx, v_bi, v_call, v_callB, v_rev, v_cut, v_p0, v_p1, vs_nil, vs_cons, f_0, f_1, i_s, i_r1, i_r2, i_e, i_z, v_lc, v_lc2, v_ssc, v_ssc2, v_sst, v_lset, x_nil, x_cons, t_nx, t_brk, t_cnt, t_ret, x_asgF, x_asgT, x_asgp, x_par, sets_nil, sets_cons, x_app, x_ext, x_exp, x_own2, x_newT, x_ret, x_ite, x_for, x_whl, x_frz, fz_o, fz_o2, fz_v, e_rF, e_rT, e_nF, sq_l, sq_t, sx_l, sx_t, sl_l, sq_L, sx_L, sl_L, sq_Ps, sx_Ps, sl_Ps, sq_G, sx_G, sl_G, sx_P, ai, ab, at0, at1, p_add, p_sub, p_lt, p_le, p_gt, p_ge, p_isB, p_isnB, p_isN, p_isnN, y_len, y_lenT, y_lenL, y_lenPs, y_lenG, y_int, y_intB, y_abs, y_min2, y_max2, y_gcd, y_list, y_listL, y_listPs, y_all, wipeE, frE, bib, Option.bind_some, Option.map_some, List.getD_cons_zero, List.getD_cons_succ, List.set_cons_zero, List.set_cons_succ, List.map_cons, List.map_nil, List.length_cons, List.length_nil, List.replicate, List.cons_append, List.nil_append, if_true, if_false, Bool.false_eq_true, Nat.reduceSub, Nat.reduceAdd, Nat.reduceLeDiff, if_le (show 0 < 1000000 by decide), o_eqL0]
  unfold bad2
  by_cases h : g = []
  · rw [decide_eq_true h]
    simp (implicitDefEqProofs := false) only [turnE_nx, turnE_cnt, rd_0, rd_o, rd_of, rd_s, gO_0, gO_s, gO2_0, gO2_s, bp_nm, bp_tp, bps_nil, bps_cons, bp_eP, v_var, v_int, v_bool, v_str, v_none, v_glb, v_op, v_ch, v_ch3, v_neg, v_not, v_and, v_or, v_b1, v_ife, v_tup, v_lst, v_idx, v_bi, v_call, v_callB, v_rev, v_cut, v_p0, v_p1, vs_nil, vs_cons, f_0, f_1, i_s, i_r1, i_r2, i_e, i_z, v_lc, v_lc2, v_ssc, v_ssc2, v_sst, v_lset, x_nil, x_cons, t_nx, t_brk, t_cnt, t_ret, x_asgF, x_asgT, x_asgp, x_par, sets_nil, sets_cons, x_app, x_ext, x_exp, x_own2, x_newT, x_ret, x_ite, x_for, x_whl, x_frz, fz_o, fz_o2, fz_v, e_rF, e_rT, e_nF, sq_l, sq_t, sx_l, sx_t, sl_l, sq_L, sx_L, sl_L, sq_Ps, sx_Ps, sl_Ps, sq_G, sx_G, sl_G, sx_P, ai, ab, at0, at1, p_add, p_sub, p_lt, p_le, p_gt, p_ge, p_isB, p_isnB, p_isN, p_isnN, y_len, y_lenT, y_lenL, y_lenPs, y_lenG, y_int, y_intB, y_abs, y_min2, y_max2, y_gcd, y_list, y_listL, y_listPs, y_all, wipeE, frE, bib, Option.bind_some, Option.map_some, List.getD_cons_zero, List.getD_cons_succ, List.set_cons_zero, List.set_cons_succ, List.map_cons, List.map_nil, List.length_cons, List.length_nil, List.replicate, List.cons_append, List.nil_append, if_true, if_false, Bool.false_eq_true, Nat.reduceSub, Nat.reduceAdd, Nat.reduceLeDiff, Bool.true_or]
  · rw [decide_eq_false h]
    simp (implicitDefEqProofs := false) only [turnE_nx, turnE_cnt, rd_0, rd_o, rd_of, rd_s, gO_0, gO_s, gO2_0, gO2_s, bp_nm, bp_tp, bps_nil, bps_cons, bp_eP, v_var, v_int, v_bool, v_str, v_none, v_glb, v_op, v_ch, v_ch3, v_neg, v_not, v_and, v_or, v_b1, v_ife, v_tup, v_lst, v_idx, v_bi, v_call, v_callB, v_rev, v_cut, v_p0, v_p1, vs_nil, vs_cons, f_0, f_1, i_s, i_r1, i_r2, i_e, i_z, v_lc, v_lc2, v_ssc, v_ssc2, v_sst, v_lset, x_nil, x_cons, t_nx, t_brk, t_cnt, t_ret, x_asgF, x_asgT, x_asgp, x_par, sets_nil, sets_cons, x_app, x_ext, x_exp, x_own2, x_newT, x_ret, x_ite, x_for, x_whl, x_frz, fz_o, fz_o2, fz_v, e_rF, e_rT, e_nF, sq_l, sq_t, sx_l, sx_t, sl_l, sq_L, sx_L, sl_L, sq_Ps, sx_Ps, sl_Ps, sq_G, sx_G, sl_G, sx_P, ai, ab, at0, at1, p_add, p_sub, p_lt, p_le, p_gt, p_ge, p_isB, p_isnB, p_isN, p_isnN, y_len, y_lenT, y_lenL, y_lenPs, y_lenG, y_int, y_intB, y_abs, y_min2, y_max2, y_gcd, y_list, y_listL, y_listPs, y_all, wipeE, frE, bib, Option.bind_some, Option.map_some, List.getD_cons_zero, List.getD_cons_succ, List.set_cons_zero, List.set_cons_succ, List.map_cons, List.map_nil, List.length_cons, List.length_nil, List.replicate, List.cons_append, List.nil_append, if_true, if_false, Bool.false_eq_true, Nat.reduceSub, Nat.reduceAdd, Nat.reduceLeDiff, List.length_map, if_pos (show g.length < 1000 by omega), setI_N g (by omega), o_neL, Bool.false_or]
    cases decide (sortN (dedupN g) = g) <;> rfl
theorem l_out (N k n : Nat) (l : List Nat) (e1 e2 e3 e4 e6 e7 e8 e9 : Ent) : lcGo (elOf (CG N k) [.val (.int n), e1, e2, e3, e4, .no, e6, e7, e8, e9] (.var 5) (.nm 5) (.cons (.not (.ch .le .lt (.con (.int 0)) (.var 5) (.var 0))) .nil) [5]) (l.map eN) = some ((l.filter fun v => !decide (v < n)).map eN) := by
  rw [lcGo_filter _ eN (fun v => !decide (v < n)) l fun g hg => ?_]
  simp (implicitDefEqProofs := false) only [elOf, turnE_nx, turnE_cnt, rd_0, rd_o, rd_of, rd_s, gO_0, gO_s, gO2_0, gO2_s, bp_nm, bp_tp, bps_nil, bps_cons, bp_eP, v_var, v_int, v_bool, v_str, v_none, v_glb, v_op, v_ch, v_ch3, v_neg, v_not, v_and, v_or, v_b1, v_ife, v_tup, v_lst, v_idx, v_bi, v_call, v_callB, v_rev, v_cut, v_p0, v_p1, vs_nil, vs_cons, f_0, f_1, i_s, i_r1, i_r2, i_e, i_z, v_lc, v_lc2, v_ssc, v_ssc2, v_sst, v_lset, x_nil, x_cons, t_nx, t_brk, t_cnt, t_ret, x_asgF, x_asgT, x_asgp, x_par, sets_nil, sets_cons, x_app, x_ext, x_exp, x_own2, x_newT, x_ret, x_ite, x_for, x_whl, x_frz, fz_o, fz_o2, fz_v, e_rF, e_rT, e_nF, sq_l, sq_t, sx_l, sx_t, sl_l, sq_L, sx_L, sl_L, sq_Ps, sx_Ps, sl_Ps, sq_G, sx_G, sl_G, sx_P, ai, ab, at0, at1, p_add, p_sub, p_lt, p_le, p_gt, p_ge, p_isB, p_isnB, p_isN, p_isnN, y_len, y_lenT, y_lenL, y_lenPs, y_lenG, y_int, y_intB, y_abs, y_min2, y_max2, y_gcd, y_list, y_listL, y_listPs, y_all, wipeE, frE, bib, Option.bind_some, Option.map_some, List.getD_cons_zero, List.getD_cons_succ, List.set_cons_zero, List.set_cons_succ, List.map_cons, List.map_nil, List.length_cons, List.length_nil, List.replicate, List.cons_append, List.nil_append, if_true, if_false, Bool.false_eq_true, Nat.reduceSub, Nat.reduceAdd, Nat.reduceLeDiff, eN, decide_eq_true (show (0 : Int) ≤ (g : Int) by omega)]
  by_cases h : g < n
  · rw [decide_eq_true h, decide_eq_true (show (g : Int) < (n : Int) by omega)]; rfl
  · rw [decide_eq_false h, decide_eq_false (show ¬ (g : Int) < (n : Int) by omega)]; rfl
theorem l_lst (N k : Nat) (told : List (List Nat)) (e0 e1 e2 e3 e5 e6 e7 e8 e9 : Ent) : lcGo (elOf (CG N k) [e0, e1, e2, e3, .no, e5, e6, e7, e8, e9] (.bi .list (.cons (.var 4) .nil)) (.nm 4) .nil [4]) (told.map eL) = some (told.map eL) := by
  rw [lcGo_map _ eL eL (fun v => v) told fun v _ => ?_]
  · rw [List.map_id']
  · simp (implicitDefEqProofs := false) only [elOf, turnE_nx, turnE_cnt, rd_0, rd_o, rd_of, rd_s, gO_0, gO_s, gO2_0, gO2_s, bp_nm, bp_tp, bps_nil, bps_cons, bp_eP, v_var, v_int, v_bool, v_str, v_none, v_glb, v_op, v_ch, v_ch3, v_neg, v_not, v_and, v_or, v_b1, v_ife, v_tup, v_lst, v_idx, v_bi, v_call, v_callB, v_rev, v_cut, v_p0, v_p1, vs_nil, vs_cons, f_0, f_1, i_s, i_r1, i_r2, i_e, i_z, v_lc, v_lc2, v_ssc, v_ssc2, v_sst, v_lset, x_nil, x_cons, t_nx, t_brk, t_cnt, t_ret, x_asgF, x_asgT, x_asgp, x_par, sets_nil, sets_cons, x_app, x_ext, x_exp, x_own2, x_newT, x_ret, x_ite, x_for, x_whl, x_frz, fz_o, fz_o2, fz_v, e_rF, e_rT, e_nF, sq_l, sq_t, sx_l, sx_t, sl_l, sq_L, sx_L, sl_L, sq_Ps, sx_Ps, sl_Ps, sq_G, sx_G, sl_G, sx_P, ai, ab, at0, at1, p_add, p_sub, p_lt, p_le, p_gt, p_ge, p_isB, p_isnB, p_isN, p_isnN, y_len, y_lenT, y_lenL, y_lenPs, y_lenG, y_int, y_intB, y_abs, y_min2, y_max2, y_gcd, y_list, y_listL, y_listPs, y_all, wipeE, frE, bib, Option.bind_some, Option.map_some, List.getD_cons_zero, List.getD_cons_succ, List.set_cons_zero, List.set_cons_succ, List.map_cons, List.map_nil, List.length_cons, List.length_nil, List.replicate, List.cons_append, List.nil_append, if_true, if_false, Bool.false_eq_true, Nat.reduceSub, Nat.reduceAdd, Nat.reduceLeDiff]
theorem l_nj (N : Nat) (C : Str → List D → Option D) (Fr : Str → Bool) (told : List (List Nat)) (ps : List (Nat × Nat)) (h : ∀ g ∈ told, C "_law_joined" [eL g, ePs ps] = some (.bool (ljM g ps))) (e0 e2 e3 e5 e6 e7 e8 e9 : Ent) : lcGo (elOf ⟨C, Fr⟩ [e0, .val (ePs ps), e2, e3, .no, e5, e6, e7, e8, e9] (.var 4) (.nm 4) (.cons (.not (.call "_law_joined" (.cons (.var 4) (.cons (.var 1) .nil)))) .nil) [4]) (told.map eL) = some ((told.filter fun g => !ljM g ps).map eL) := by
  rw [lcGo_filter _ eL (fun g => !ljM g ps) told fun g hg => ?_]
  simp (implicitDefEqProofs := false) only [elOf, turnE_nx, turnE_cnt, rd_0, rd_o, rd_of, rd_s, gO_0, gO_s, gO2_0, gO2_s, bp_nm, bp_tp, bps_nil, bps_cons, bp_eP, v_var, v_int, v_bool, v_str, v_none, v_glb, v_op, v_ch, v_ch3, v_neg, v_not, v_and, v_or, v_b1, v_ife, v_tup, v_lst, v_idx, v_bi, v_call, v_callB, v_rev, v_cut, v_p0, v_p1, vs_nil, vs_cons, f_0, f_1, i_s, i_r1, i_r2, i_e, i_z, v_lc, v_lc2, v_ssc, v_ssc2, v_sst, v_lset, x_nil, x_cons, t_nx, t_brk, t_cnt, t_ret, x_asgF, x_asgT, x_asgp, x_par, sets_nil, sets_cons, x_app, x_ext, x_exp, x_own2, x_newT, x_ret, x_ite, x_for, x_whl, x_frz, fz_o, fz_o2, fz_v, e_rF, e_rT, e_nF, sq_l, sq_t, sx_l, sx_t, sl_l, sq_L, sx_L, sl_L, sq_Ps, sx_Ps, sl_Ps, sq_G, sx_G, sl_G, sx_P, ai, ab, at0, at1, p_add, p_sub, p_lt, p_le, p_gt, p_ge, p_isB, p_isnB, p_isN, p_isnN, y_len, y_lenT, y_lenL, y_lenPs, y_lenG, y_int, y_intB, y_abs, y_min2, y_max2, y_gcd, y_list, y_listL, y_listPs, y_all, wipeE, frE, bib, Option.bind_some, Option.map_some, List.getD_cons_zero, List.getD_cons_succ, List.set_cons_zero, List.set_cons_succ, List.map_cons, List.map_nil, List.length_cons, List.length_nil, List.replicate, List.cons_append, List.nil_append, if_true, if_false, Bool.false_eq_true, Nat.reduceSub, Nat.reduceAdd, Nat.reduceLeDiff, h g hg]
  cases ljM g ps <;> rfl
def one : Nat → D := fun _ => .int 1
theorem l_adj (N k : Nat) (told : List (List Nat)) (ps : List (Nat × Nat)) (s t : Nat) (hs : s < told.length) (ht : t < told.length) (e0 e1 e3 e4 e5 : Ent) : lcGo (elOf (CG N k) [e0, e1, .val (eG told), e3, e4, e5, .val (.int s), .val (.int t), .no, .no] (.con (.int 1)) (.tp (.cons (.nm 8) (.cons (.nm 9) .nil))) (.cons (.bool false (.cons (.bool true (.cons (.op .isIn (.var 8) (.idx (.var 2) (.var 6))) (.cons (.op .isIn (.var 9) (.idx (.var 2) (.var 7))) .nil))) (.cons (.bool true (.cons (.op .isIn (.var 9) (.idx (.var 2) (.var 6))) (.cons (.op .isIn (.var 8) (.idx (.var 2) (.var 7))) .nil))) .nil))) .nil) [8, 9]) (ps.map eP) = some (((ps.filter fun p => (decide (p.1 ∈ told.getD s []) && decide (p.2 ∈ told.getD t [])) || (decide (p.2 ∈ told.getD s []) && decide (p.1 ∈ told.getD t []))).map fun _ => 1).map eN) := by
  rw [lcGo_fm _ eP eN (fun p => if ((decide (p.1 ∈ told.getD s []) && decide (p.2 ∈ told.getD t [])) || (decide (p.2 ∈ told.getD s []) && decide (p.1 ∈ told.getD t []))) = true then some 1 else none) ps fun p hp => ?_]
  · rw [fm_if (fun p : Nat × Nat => ((decide (p.1 ∈ told.getD s []) && decide (p.2 ∈ told.getD t [])) || (decide (p.2 ∈ told.getD s []) && decide (p.1 ∈ told.getD t []))) = true)]
    simp
  · obtain ⟨a, b⟩ := p
    simp (implicitDefEqProofs := false) only [elOf, turnE_nx, turnE_cnt, rd_0, rd_o, rd_of, rd_s, gO_0, gO_s, gO2_0, gO2_s, bp_nm, bp_tp, bps_nil, bps_cons, bp_eP, v_var, v_int, v_bool, v_str, v_none, v_glb, v_op, v_ch, v_ch3, v_neg, v_not, v_and, v_or, v_b1, v_ife, v_tup, v_lst, v_idx, v_bi, v_call, v_callB, v_rev, v_cut, v_p0, v_p1, vs_nil, vs_cons, f_0, f_1, i_s, i_r1, i_r2, i_e, i_z, v_lc, v_lc2, v_ssc, v_ssc2, v_sst, v_lset, x_nil, x_cons, t_nx, t_brk, t_cnt, t_ret, x_asgF, x_asgT, x_asgp, x_par, sets_nil, sets_cons, x_app, x_ext, x_exp, x_own2, x_newT, x_ret, x_ite, x_for, x_whl, x_frz, fz_o, fz_o2, fz_v, e_rF, e_rT, e_nF, sq_l, sq_t, sx_l, sx_t, sl_l, sq_L, sx_L, sl_L, sq_Ps, sx_Ps, sl_Ps, sq_G, sx_G, sl_G, sx_P, ai, ab, at0, at1, p_add, p_sub, p_lt, p_le, p_gt, p_ge, p_isB, p_isnB, p_isN, p_isnN, y_len, y_lenT, y_lenL, y_lenPs, y_lenG, y_int, y_intB, y_abs, y_min2, y_max2, y_gcd, y_list, y_listL, y_listPs, y_all, wipeE, frE, bib, Option.bind_some, Option.map_some, List.getD_cons_zero, List.getD_cons_succ, List.set_cons_zero, List.set_cons_succ, List.map_cons, List.map_nil, List.length_cons, List.length_nil, List.replicate, List.cons_append, List.nil_append, if_true, if_false, Bool.false_eq_true, Nat.reduceSub, Nat.reduceAdd, Nat.reduceLeDiff, at_G told s hs, at_G told t ht, o_inL']
    generalize decide (a ∈ told.getD s []) = A
    generalize decide (b ∈ told.getD t []) = B
    generalize decide (b ∈ told.getD s []) = A'
    generalize decide (a ∈ told.getD t []) = B'
    cases A <;> cases B <;> cases A' <;> cases B' <;> rfl
end K19

set_option Elab.async false
set_option linter.all false
set_option maxRecDepth 100000
set_option maxHeartbeats 4000000
namespace K19
open PySem Pv
theorem emp_any2 {α : Type} (l : List α) (c : α → Bool) : ((l.filter c).map (fun _ => 1)).isEmpty = !l.any c := by
  induction l with
  | nil => rfl
  | cons a l ih =>
    rw [List.any_cons, List.filter_cons]
    cases h : c a with
    | true => simp
    | false => simpa using ih
theorem o_eql0 (l : List Nat) : op2 .eq (.list (l.map eN)) (.list []) = some (.bool l.isEmpty) := by
  have h2 : op2 .eq (.list (l.map eN)) (.list []) = some (.bool (decide (l = []))) := o_eqL l []
  rw [h2]
  cases l <;> rfl
theorem nd_of_bad2 {g : List Nat} (h : bad2 g = false) : g.Nodup ∧ g ≠ [] := by
  unfold bad2 at h
  rw [Bool.or_eq_false_iff] at h
  refine ⟨?_, of_decide_eq_false h.1⟩
  have e : sortN (dedupN g) = g := by
    have := h.2
    simpa using this
  rw [← e]
  exact (sortN_perm _).nodup_iff.mpr (dedupN_nodup g)
theorem r_law_are_four (N k n : Nat) (ps : List (Nat × Nat)) (told : List (List Nat)) (hp : ps.length < 900) (ht : told.length < 90) (hf : told.flatten.length < 900) (hm : ∀ g ∈ told, g.length < 60) : cal (tabOf fds) N (k + 2) "_law_are_four" [.int n, ePs ps, eG told] = some (.bool (lafM n ps told)) := by
  rw [c_law_are_four _ _ _ rfl, b_law_are_four]
  have r1 : ∀ g ∈ told, bad2 g = false → cal (tabOf fds) N (k + 1) "_law_joined" [eL g, ePs ps] = some (.bool (ljM g ps)) := fun g hg hb => r_law_joined N k g ps (by have := hm g hg; omega) (nd_of_bad2 hb).1
  have s1 := l_lst N (k + 1) told (.val (.int n)) (.val (ePs ps)) (.val (eG told))
  have s2 := l_bad N (k + 1) told hm (.val (.int n)) (.val (ePs ps)) (.val (eG told))
  have s3 := l_out N (k + 1) n told.flatten (.val (ePs ps)) (.val (eG told))
  have s4 := fun s t hs ht => l_adj N (k + 1) told ps s t hs ht (.val (.int n)) (.val (ePs ps))
  revert r1 s1 s2 s3 s4
  unfold CG
  generalize cal (tabOf fds) N (k + 1) = C
  intro r1 s1 s2 s3 s4
  have ln : ∀ l : List Nat, PyData.list (l.map eN) = eL l := fun _ => rfl
  have lg : ∀ gs : List (List Nat), PyData.list (gs.map eL) = eG gs := fun _ => rfl
  have bl : (told.filter bad2).length ≤ told.length := List.length_filter_le _ _
  have ol : (told.flatten.filter fun v => !decide (v < n)).length ≤ told.flatten.length := List.length_filter_le _ _
  have jl : (told.filter fun g => !ljM g ps).length ≤ told.length := List.length_filter_le _ _
  unfold lafM
  simp (implicitDefEqProofs := false) only [turnE_nx, turnE_cnt, rd_0, rd_o, rd_of, rd_s, gO_0, gO_s, gO2_0, gO2_s, bp_nm, bp_tp, bps_nil, bps_cons, bp_eP, v_var, v_int, v_bool, v_str, v_none, v_glb, v_op, v_ch, v_ch3, v_neg, v_not, v_and, v_or, v_b1, v_ife, v_tup, v_lst, v_idx, v_bi, v_call, v_callB, v_rev, v_cut, v_p0, v_p1, vs_nil, vs_cons, f_0, f_1, i_s, i_r1, i_r2, i_e, i_z, v_lc, v_lc2, v_ssc, v_ssc2, v_sst, v_lset, x_nil, x_cons, t_nx, t_brk, t_cnt, t_ret, x_asgF, x_asgT, x_asgp, x_par, sets_nil, sets_cons, x_app, x_ext, x_exp, x_own2, x_newT, x_ret, x_ite, x_for, x_whl, x_frz, fz_o, fz_o2, fz_v, e_rF, e_rT, e_nF, sq_l, sq_t, sx_l, sx_t, sl_l, sq_L, sx_L, sl_L, sq_Ps, sx_Ps, sl_Ps, sq_G, sx_G, sl_G, sx_P, ai, ab, at0, at1, p_add, p_sub, p_lt, p_le, p_gt, p_ge, p_isB, p_isnB, p_isN, p_isnN, y_len, y_lenT, y_lenL, y_lenPs, y_lenG, y_int, y_intB, y_abs, y_min2, y_max2, y_gcd, y_list, y_listL, y_listPs, y_all, wipeE, frE, bib, Option.bind_some, Option.map_some, List.getD_cons_zero, List.getD_cons_succ, List.set_cons_zero, List.set_cons_succ, List.map_cons, List.map_nil, List.length_cons, List.length_nil, List.replicate, List.cons_append, List.nil_append, if_true, if_false, Bool.false_eq_true, Nat.reduceSub, Nat.reduceAdd, Nat.reduceLeDiff, s1, List.length_map, if_lt (show told.length < 1000000 by omega), lg, if_le (show 0 < 1000000 by decide), y_sumL told (by omega), o_neI, len4]
  by_cases c1 : told.length = 4
  · rw [decide_eq_true c1]
    simp (implicitDefEqProofs := false) only [turnE_nx, turnE_cnt, rd_0, rd_o, rd_of, rd_s, gO_0, gO_s, gO2_0, gO2_s, bp_nm, bp_tp, bps_nil, bps_cons, bp_eP, v_var, v_int, v_bool, v_str, v_none, v_glb, v_op, v_ch, v_ch3, v_neg, v_not, v_and, v_or, v_b1, v_ife, v_tup, v_lst, v_idx, v_bi, v_call, v_callB, v_rev, v_cut, v_p0, v_p1, vs_nil, vs_cons, f_0, f_1, i_s, i_r1, i_r2, i_e, i_z, v_lc, v_lc2, v_ssc, v_ssc2, v_sst, v_lset, x_nil, x_cons, t_nx, t_brk, t_cnt, t_ret, x_asgF, x_asgT, x_asgp, x_par, sets_nil, sets_cons, x_app, x_ext, x_exp, x_own2, x_newT, x_ret, x_ite, x_for, x_whl, x_frz, fz_o, fz_o2, fz_v, e_rF, e_rT, e_nF, sq_l, sq_t, sx_l, sx_t, sl_l, sq_L, sx_L, sl_L, sq_Ps, sx_Ps, sl_Ps, sq_G, sx_G, sl_G, sx_P, ai, ab, at0, at1, p_add, p_sub, p_lt, p_le, p_gt, p_ge, p_isB, p_isnB, p_isN, p_isnN, y_len, y_lenT, y_lenL, y_lenPs, y_lenG, y_int, y_intB, y_abs, y_min2, y_max2, y_gcd, y_list, y_listL, y_listPs, y_all, wipeE, frE, bib, Option.bind_some, Option.map_some, List.getD_cons_zero, List.getD_cons_succ, List.set_cons_zero, List.set_cons_succ, List.map_cons, List.map_nil, List.length_cons, List.length_nil, List.replicate, List.cons_append, List.nil_append, if_true, if_false, Bool.false_eq_true, Nat.reduceSub, Nat.reduceAdd, Nat.reduceLeDiff, Bool.not_true, Bool.false_or, s2, List.length_map, if_lt (show (told.filter bad2).length < 1000000 by omega), if_le (show 0 < 1000000 by decide), o_neG0, emp_any]
    by_cases c2 : told.any bad2 = true
    · simp (implicitDefEqProofs := false) only [turnE_nx, turnE_cnt, rd_0, rd_o, rd_of, rd_s, gO_0, gO_s, gO2_0, gO2_s, bp_nm, bp_tp, bps_nil, bps_cons, bp_eP, v_var, v_int, v_bool, v_str, v_none, v_glb, v_op, v_ch, v_ch3, v_neg, v_not, v_and, v_or, v_b1, v_ife, v_tup, v_lst, v_idx, v_bi, v_call, v_callB, v_rev, v_cut, v_p0, v_p1, vs_nil, vs_cons, f_0, f_1, i_s, i_r1, i_r2, i_e, i_z, v_lc, v_lc2, v_ssc, v_ssc2, v_sst, v_lset, x_nil, x_cons, t_nx, t_brk, t_cnt, t_ret, x_asgF, x_asgT, x_asgp, x_par, sets_nil, sets_cons, x_app, x_ext, x_exp, x_own2, x_newT, x_ret, x_ite, x_for, x_whl, x_frz, fz_o, fz_o2, fz_v, e_rF, e_rT, e_nF, sq_l, sq_t, sx_l, sx_t, sl_l, sq_L, sx_L, sl_L, sq_Ps, sx_Ps, sl_Ps, sq_G, sx_G, sl_G, sx_P, ai, ab, at0, at1, p_add, p_sub, p_lt, p_le, p_gt, p_ge, p_isB, p_isnB, p_isN, p_isnN, y_len, y_lenT, y_lenL, y_lenPs, y_lenG, y_int, y_intB, y_abs, y_min2, y_max2, y_gcd, y_list, y_listL, y_listPs, y_all, wipeE, frE, bib, Option.bind_some, Option.map_some, List.getD_cons_zero, List.getD_cons_succ, List.set_cons_zero, List.set_cons_succ, List.map_cons, List.map_nil, List.length_cons, List.length_nil, List.replicate, List.cons_append, List.nil_append, if_true, if_false, Bool.false_eq_true, Nat.reduceSub, Nat.reduceAdd, Nat.reduceLeDiff, c2, Bool.true_or]
    · simp (implicitDefEqProofs := false) only [turnE_nx, turnE_cnt, rd_0, rd_o, rd_of, rd_s, gO_0, gO_s, gO2_0, gO2_s, bp_nm, bp_tp, bps_nil, bps_cons, bp_eP, v_var, v_int, v_bool, v_str, v_none, v_glb, v_op, v_ch, v_ch3, v_neg, v_not, v_and, v_or, v_b1, v_ife, v_tup, v_lst, v_idx, v_bi, v_call, v_callB, v_rev, v_cut, v_p0, v_p1, vs_nil, vs_cons, f_0, f_1, i_s, i_r1, i_r2, i_e, i_z, v_lc, v_lc2, v_ssc, v_ssc2, v_sst, v_lset, x_nil, x_cons, t_nx, t_brk, t_cnt, t_ret, x_asgF, x_asgT, x_asgp, x_par, sets_nil, sets_cons, x_app, x_ext, x_exp, x_own2, x_newT, x_ret, x_ite, x_for, x_whl, x_frz, fz_o, fz_o2, fz_v, e_rF, e_rT, e_nF, sq_l, sq_t, sx_l, sx_t, sl_l, sq_L, sx_L, sl_L, sq_Ps, sx_Ps, sl_Ps, sq_G, sx_G, sl_G, sx_P, ai, ab, at0, at1, p_add, p_sub, p_lt, p_le, p_gt, p_ge, p_isB, p_isnB, p_isN, p_isnN, y_len, y_lenT, y_lenL, y_lenPs, y_lenG, y_int, y_intB, y_abs, y_min2, y_max2, y_gcd, y_list, y_listL, y_listPs, y_all, wipeE, frE, bib, Option.bind_some, Option.map_some, List.getD_cons_zero, List.getD_cons_succ, List.set_cons_zero, List.set_cons_succ, List.map_cons, List.map_nil, List.length_cons, List.length_nil, List.replicate, List.cons_append, List.nil_append, if_true, if_false, Bool.false_eq_true, Nat.reduceSub, Nat.reduceAdd, Nat.reduceLeDiff, Bool.eq_false_iff.mpr c2, Bool.false_or, if_pos (show told.flatten.length < 1000 by omega), ints_N, dd_len, List.length_map]
      have r2 : ∀ g ∈ told, C "_law_joined" [eL g, ePs ps] = some (.bool (ljM g ps)) := fun g hg => r1 g hg (by
        cases hb : bad2 g with
        | false => rfl
        | true => exact absurd (List.any_eq_true.mpr ⟨g, hg, hb⟩) c2)
      by_cases c3 : (dedupN told.flatten).length < told.flatten.length
      · simp (implicitDefEqProofs := false) only [turnE_nx, turnE_cnt, rd_0, rd_o, rd_of, rd_s, gO_0, gO_s, gO2_0, gO2_s, bp_nm, bp_tp, bps_nil, bps_cons, bp_eP, v_var, v_int, v_bool, v_str, v_none, v_glb, v_op, v_ch, v_ch3, v_neg, v_not, v_and, v_or, v_b1, v_ife, v_tup, v_lst, v_idx, v_bi, v_call, v_callB, v_rev, v_cut, v_p0, v_p1, vs_nil, vs_cons, f_0, f_1, i_s, i_r1, i_r2, i_e, i_z, v_lc, v_lc2, v_ssc, v_ssc2, v_sst, v_lset, x_nil, x_cons, t_nx, t_brk, t_cnt, t_ret, x_asgF, x_asgT, x_asgp, x_par, sets_nil, sets_cons, x_app, x_ext, x_exp, x_own2, x_newT, x_ret, x_ite, x_for, x_whl, x_frz, fz_o, fz_o2, fz_v, e_rF, e_rT, e_nF, sq_l, sq_t, sx_l, sx_t, sl_l, sq_L, sx_L, sl_L, sq_Ps, sx_Ps, sl_Ps, sq_G, sx_G, sl_G, sx_P, ai, ab, at0, at1, p_add, p_sub, p_lt, p_le, p_gt, p_ge, p_isB, p_isnB, p_isN, p_isnN, y_len, y_lenT, y_lenL, y_lenPs, y_lenG, y_int, y_intB, y_abs, y_min2, y_max2, y_gcd, y_list, y_listL, y_listPs, y_all, wipeE, frE, bib, Option.bind_some, Option.map_some, List.getD_cons_zero, List.getD_cons_succ, List.set_cons_zero, List.set_cons_succ, List.map_cons, List.map_nil, List.length_cons, List.length_nil, List.replicate, List.cons_append, List.nil_append, if_true, if_false, Bool.false_eq_true, Nat.reduceSub, Nat.reduceAdd, Nat.reduceLeDiff, decide_eq_true c3, decide_eq_true (show ((dedupN told.flatten).length : Int) < (told.flatten.length : Int) by omega), Bool.true_or]
      · simp (implicitDefEqProofs := false) only [turnE_nx, turnE_cnt, rd_0, rd_o, rd_of, rd_s, gO_0, gO_s, gO2_0, gO2_s, bp_nm, bp_tp, bps_nil, bps_cons, bp_eP, v_var, v_int, v_bool, v_str, v_none, v_glb, v_op, v_ch, v_ch3, v_neg, v_not, v_and, v_or, v_b1, v_ife, v_tup, v_lst, v_idx, v_bi, v_call, v_callB, v_rev, v_cut, v_p0, v_p1, vs_nil, vs_cons, f_0, f_1, i_s, i_r1, i_r2, i_e, i_z, v_lc, v_lc2, v_ssc, v_ssc2, v_sst, v_lset, x_nil, x_cons, t_nx, t_brk, t_cnt, t_ret, x_asgF, x_asgT, x_asgp, x_par, sets_nil, sets_cons, x_app, x_ext, x_exp, x_own2, x_newT, x_ret, x_ite, x_for, x_whl, x_frz, fz_o, fz_o2, fz_v, e_rF, e_rT, e_nF, sq_l, sq_t, sx_l, sx_t, sl_l, sq_L, sx_L, sl_L, sq_Ps, sx_Ps, sl_Ps, sq_G, sx_G, sl_G, sx_P, ai, ab, at0, at1, p_add, p_sub, p_lt, p_le, p_gt, p_ge, p_isB, p_isnB, p_isN, p_isnN, y_len, y_lenT, y_lenL, y_lenPs, y_lenG, y_int, y_intB, y_abs, y_min2, y_max2, y_gcd, y_list, y_listL, y_listPs, y_all, wipeE, frE, bib, Option.bind_some, Option.map_some, List.getD_cons_zero, List.getD_cons_succ, List.set_cons_zero, List.set_cons_succ, List.map_cons, List.map_nil, List.length_cons, List.length_nil, List.replicate, List.cons_append, List.nil_append, if_true, if_false, Bool.false_eq_true, Nat.reduceSub, Nat.reduceAdd, Nat.reduceLeDiff, decide_eq_false c3, decide_eq_false (show ¬ ((dedupN told.flatten).length : Int) < (told.flatten.length : Int) by omega), Bool.false_or, s3, List.length_map, if_lt (show (told.flatten.filter fun v => !decide (v < n)).length < 1000000 by omega), if_le (show 0 < 1000000 by decide), o_neL0, emp_any]
        by_cases c4 : (told.flatten.any fun v => !decide (v < n)) = true
        · simp (implicitDefEqProofs := false) only [turnE_nx, turnE_cnt, rd_0, rd_o, rd_of, rd_s, gO_0, gO_s, gO2_0, gO2_s, bp_nm, bp_tp, bps_nil, bps_cons, bp_eP, v_var, v_int, v_bool, v_str, v_none, v_glb, v_op, v_ch, v_ch3, v_neg, v_not, v_and, v_or, v_b1, v_ife, v_tup, v_lst, v_idx, v_bi, v_call, v_callB, v_rev, v_cut, v_p0, v_p1, vs_nil, vs_cons, f_0, f_1, i_s, i_r1, i_r2, i_e, i_z, v_lc, v_lc2, v_ssc, v_ssc2, v_sst, v_lset, x_nil, x_cons, t_nx, t_brk, t_cnt, t_ret, x_asgF, x_asgT, x_asgp, x_par, sets_nil, sets_cons, x_app, x_ext, x_exp, x_own2, x_newT, x_ret, x_ite, x_for, x_whl, x_frz, fz_o, fz_o2, fz_v, e_rF, e_rT, e_nF, sq_l, sq_t, sx_l, sx_t, sl_l, sq_L, sx_L, sl_L, sq_Ps, sx_Ps, sl_Ps, sq_G, sx_G, sl_G, sx_P, ai, ab, at0, at1, p_add, p_sub, p_lt, p_le, p_gt, p_ge, p_isB, p_isnB, p_isN, p_isnN, y_len, y_lenT, y_lenL, y_lenPs, y_lenG, y_int, y_intB, y_abs, y_min2, y_max2, y_gcd, y_list, y_listL, y_listPs, y_all, wipeE, frE, bib, Option.bind_some, Option.map_some, List.getD_cons_zero, List.getD_cons_succ, List.set_cons_zero, List.set_cons_succ, List.map_cons, List.map_nil, List.length_cons, List.length_nil, List.replicate, List.cons_append, List.nil_append, if_true, if_false, Bool.false_eq_true, Nat.reduceSub, Nat.reduceAdd, Nat.reduceLeDiff, c4]
        · simp (implicitDefEqProofs := false) only [turnE_nx, turnE_cnt, rd_0, rd_o, rd_of, rd_s, gO_0, gO_s, gO2_0, gO2_s, bp_nm, bp_tp, bps_nil, bps_cons, bp_eP, v_var, v_int, v_bool, v_str, v_none, v_glb, v_op, v_ch, v_ch3, v_neg, v_not, v_and, v_or, v_b1, v_ife, v_tup, v_lst, v_idx, v_bi, v_call, v_callB, v_rev, v_cut, v_p0, v_p1, vs_nil, vs_cons, f_0, f_1, i_s, i_r1, i_r2, i_e, i_z, v_lc, v_lc2, v_ssc, v_ssc2, v_sst, v_lset, x_nil, x_cons, t_nx, t_brk, t_cnt, t_ret, x_asgF, x_asgT, x_asgp, x_par, sets_nil, sets_cons, x_app, x_ext, x_exp, x_own2, x_newT, x_ret, x_ite, x_for, x_whl, x_frz, fz_o, fz_o2, fz_v, e_rF, e_rT, e_nF, sq_l, sq_t, sx_l, sx_t, sl_l, sq_L, sx_L, sl_L, sq_Ps, sx_Ps, sl_Ps, sq_G, sx_G, sl_G, sx_P, ai, ab, at0, at1, p_add, p_sub, p_lt, p_le, p_gt, p_ge, p_isB, p_isnB, p_isN, p_isnN, y_len, y_lenT, y_lenL, y_lenPs, y_lenG, y_int, y_intB, y_abs, y_min2, y_max2, y_gcd, y_list, y_listL, y_listPs, y_all, wipeE, frE, bib, Option.bind_some, Option.map_some, List.getD_cons_zero, List.getD_cons_succ, List.set_cons_zero, List.set_cons_succ, List.map_cons, List.map_nil, List.length_cons, List.length_nil, List.replicate, List.cons_append, List.nil_append, if_true, if_false, Bool.false_eq_true, Nat.reduceSub, Nat.reduceAdd, Nat.reduceLeDiff, Bool.eq_false_iff.mpr c4, l_nj N C _ told ps r2, List.length_map, if_lt (show (told.filter fun g => !ljM g ps).length < 1000000 by omega), if_le (show 0 < 1000000 by decide), o_neG0, emp_any]
          by_cases c5 : (told.any fun g => !ljM g ps) = true
          · simp (implicitDefEqProofs := false) only [turnE_nx, turnE_cnt, rd_0, rd_o, rd_of, rd_s, gO_0, gO_s, gO2_0, gO2_s, bp_nm, bp_tp, bps_nil, bps_cons, bp_eP, v_var, v_int, v_bool, v_str, v_none, v_glb, v_op, v_ch, v_ch3, v_neg, v_not, v_and, v_or, v_b1, v_ife, v_tup, v_lst, v_idx, v_bi, v_call, v_callB, v_rev, v_cut, v_p0, v_p1, vs_nil, vs_cons, f_0, f_1, i_s, i_r1, i_r2, i_e, i_z, v_lc, v_lc2, v_ssc, v_ssc2, v_sst, v_lset, x_nil, x_cons, t_nx, t_brk, t_cnt, t_ret, x_asgF, x_asgT, x_asgp, x_par, sets_nil, sets_cons, x_app, x_ext, x_exp, x_own2, x_newT, x_ret, x_ite, x_for, x_whl, x_frz, fz_o, fz_o2, fz_v, e_rF, e_rT, e_nF, sq_l, sq_t, sx_l, sx_t, sl_l, sq_L, sx_L, sl_L, sq_Ps, sx_Ps, sl_Ps, sq_G, sx_G, sl_G, sx_P, ai, ab, at0, at1, p_add, p_sub, p_lt, p_le, p_gt, p_ge, p_isB, p_isnB, p_isN, p_isnN, y_len, y_lenT, y_lenL, y_lenPs, y_lenG, y_int, y_intB, y_abs, y_min2, y_max2, y_gcd, y_list, y_listL, y_listPs, y_all, wipeE, frE, bib, Option.bind_some, Option.map_some, List.getD_cons_zero, List.getD_cons_succ, List.set_cons_zero, List.set_cons_succ, List.map_cons, List.map_nil, List.length_cons, List.length_nil, List.replicate, List.cons_append, List.nil_append, if_true, if_false, Bool.false_eq_true, Nat.reduceSub, Nat.reduceAdd, Nat.reduceLeDiff, c5]
          · have r4 : rngOk 4 = true := rng_ok (n := 4) (by decide)
            have t4 : (4 : Int).toNat = 4 := rfl
            have lp := fun f a b => forGo_find f [6, 7] eN [.val (.int n), .val (ePs ps), .val (eG told), .val (eL told.flatten), .no, .no, .no, .no, .no, .no] (fun s => ((List.range s).find? fun t => !adjB ps (told.getD s []) (told.getD t [])).isSome) (fun s => (.ret false (.bool false), [.val (.int n), .val (ePs ps), .val (eG told), .val (eL told.flatten), .no, .no, .val (.int s), .val (.int (((List.range s).find? fun t => !adjB ps (told.getD s []) (told.getD t [])).getD 0 : Nat)), .no, .no])) (fun p => ⟨_, _, rfl⟩) (List.range 4) a b
            simp (implicitDefEqProofs := false) only [turnE_nx, turnE_cnt, rd_0, rd_o, rd_of, rd_s, gO_0, gO_s, gO2_0, gO2_s, bp_nm, bp_tp, bps_nil, bps_cons, bp_eP, v_var, v_int, v_bool, v_str, v_none, v_glb, v_op, v_ch, v_ch3, v_neg, v_not, v_and, v_or, v_b1, v_ife, v_tup, v_lst, v_idx, v_bi, v_call, v_callB, v_rev, v_cut, v_p0, v_p1, vs_nil, vs_cons, f_0, f_1, i_s, i_r1, i_r2, i_e, i_z, v_lc, v_lc2, v_ssc, v_ssc2, v_sst, v_lset, x_nil, x_cons, t_nx, t_brk, t_cnt, t_ret, x_asgF, x_asgT, x_asgp, x_par, sets_nil, sets_cons, x_app, x_ext, x_exp, x_own2, x_newT, x_ret, x_ite, x_for, x_whl, x_frz, fz_o, fz_o2, fz_v, e_rF, e_rT, e_nF, sq_l, sq_t, sx_l, sx_t, sl_l, sq_L, sx_L, sl_L, sq_Ps, sx_Ps, sl_Ps, sq_G, sx_G, sl_G, sx_P, ai, ab, at0, at1, p_add, p_sub, p_lt, p_le, p_gt, p_ge, p_isB, p_isnB, p_isN, p_isnN, y_len, y_lenT, y_lenL, y_lenPs, y_lenG, y_int, y_intB, y_abs, y_min2, y_max2, y_gcd, y_list, y_listL, y_listPs, y_all, wipeE, frE, bib, Option.bind_some, Option.map_some, List.getD_cons_zero, List.getD_cons_succ, List.set_cons_zero, List.set_cons_succ, List.map_cons, List.map_nil, List.length_cons, List.length_nil, List.replicate, List.cons_append, List.nil_append, if_true, if_false, Bool.false_eq_true, Nat.reduceSub, Nat.reduceAdd, Nat.reduceLeDiff, Bool.eq_false_iff.mpr c5, r4, t4, rng_map]
            rw [lp]
            · cases ((List.range 4).find? fun s => ((List.range s).find? fun t => !adjB ps (told.getD s []) (told.getD t [])).isSome) with
              | none => simp (implicitDefEqProofs := false) only [turnE_nx, turnE_cnt, rd_0, rd_o, rd_of, rd_s, gO_0, gO_s, gO2_0, gO2_s, bp_nm, bp_tp, bps_nil, bps_cons, bp_eP, v_var, v_int, v_bool, v_str, v_none, v_glb, v_op, v_ch, v_ch3, v_neg, v_not, v_and, v_or, v_b1, v_ife, v_tup, v_lst, v_idx, v_bi, v_call, v_callB, v_rev, v_cut, v_p0, v_p1, vs_nil, vs_cons, f_0, f_1, i_s, i_r1, i_r2, i_e, i_z, v_lc, v_lc2, v_ssc, v_ssc2, v_sst, v_lset, x_nil, x_cons, t_nx, t_brk, t_cnt, t_ret, x_asgF, x_asgT, x_asgp, x_par, sets_nil, sets_cons, x_app, x_ext, x_exp, x_own2, x_newT, x_ret, x_ite, x_for, x_whl, x_frz, fz_o, fz_o2, fz_v, e_rF, e_rT, e_nF, sq_l, sq_t, sx_l, sx_t, sl_l, sq_L, sx_L, sl_L, sq_Ps, sx_Ps, sl_Ps, sq_G, sx_G, sl_G, sx_P, ai, ab, at0, at1, p_add, p_sub, p_lt, p_le, p_gt, p_ge, p_isB, p_isnB, p_isN, p_isnN, y_len, y_lenT, y_lenL, y_lenPs, y_lenG, y_int, y_intB, y_abs, y_min2, y_max2, y_gcd, y_list, y_listL, y_listPs, y_all, wipeE, frE, bib, Option.bind_some, Option.map_some, List.getD_cons_zero, List.getD_cons_succ, List.set_cons_zero, List.set_cons_succ, List.map_cons, List.map_nil, List.length_cons, List.length_nil, List.replicate, List.cons_append, List.nil_append, if_true, if_false, Bool.false_eq_true, Nat.reduceSub, Nat.reduceAdd, Nat.reduceLeDiff]; rfl
              | some s => simp (implicitDefEqProofs := false) only [turnE_nx, turnE_cnt, rd_0, rd_o, rd_of, rd_s, gO_0, gO_s, gO2_0, gO2_s, bp_nm, bp_tp, bps_nil, bps_cons, bp_eP, v_var, v_int, v_bool, v_str, v_none, v_glb, v_op, v_ch, v_ch3, v_neg, v_not, v_and, v_or, v_b1, v_ife, v_tup, v_lst, v_idx, v_bi, v_call, v_callB, v_rev, v_cut, v_p0, v_p1, vs_nil, vs_cons, f_0, f_1, i_s, i_r1, i_r2, i_e, i_z, v_lc, v_lc2, v_ssc, v_ssc2, v_sst, v_lset, x_nil, x_cons, t_nx, t_brk, t_cnt, t_ret, x_asgF, x_asgT, x_asgp, x_par, sets_nil, sets_cons, x_app, x_ext, x_exp, x_own2, x_newT, x_ret, x_ite, x_for, x_whl, x_frz, fz_o, fz_o2, fz_v, e_rF, e_rT, e_nF, sq_l, sq_t, sx_l, sx_t, sl_l, sq_L, sx_L, sl_L, sq_Ps, sx_Ps, sl_Ps, sq_G, sx_G, sl_G, sx_P, ai, ab, at0, at1, p_add, p_sub, p_lt, p_le, p_gt, p_ge, p_isB, p_isnB, p_isN, p_isnN, y_len, y_lenT, y_lenL, y_lenPs, y_lenG, y_int, y_intB, y_abs, y_min2, y_max2, y_gcd, y_list, y_listL, y_listPs, y_all, wipeE, frE, bib, Option.bind_some, Option.map_some, List.getD_cons_zero, List.getD_cons_succ, List.set_cons_zero, List.set_cons_succ, List.map_cons, List.map_nil, List.length_cons, List.length_nil, List.replicate, List.cons_append, List.nil_append, if_true, if_false, Bool.false_eq_true, Nat.reduceSub, Nat.reduceAdd, Nat.reduceLeDiff]; rfl
            · intro s hs hb
              have hs4 : s < 4 := List.mem_range.mp hs
              have lq := fun f a b => forGo_find f [7] eN [.val (.int n), .val (ePs ps), .val (eG told), .val (eL told.flatten), .no, .no, .val (.int s), .no, .no, .no] (fun t => !adjB ps (told.getD s []) (told.getD t [])) (fun t => (.ret false (.bool false), [.val (.int n), .val (ePs ps), .val (eG told), .val (eL told.flatten), .no, .no, .val (.int s), .val (.int t), .no, .no])) (fun p => ⟨_, _, rfl⟩) (List.range s) a b
              simp (implicitDefEqProofs := false) only [turnE_nx, turnE_cnt, rd_0, rd_o, rd_of, rd_s, gO_0, gO_s, gO2_0, gO2_s, bp_nm, bp_tp, bps_nil, bps_cons, bp_eP, v_var, v_int, v_bool, v_str, v_none, v_glb, v_op, v_ch, v_ch3, v_neg, v_not, v_and, v_or, v_b1, v_ife, v_tup, v_lst, v_idx, v_bi, v_call, v_callB, v_rev, v_cut, v_p0, v_p1, vs_nil, vs_cons, f_0, f_1, i_s, i_r1, i_r2, i_e, i_z, v_lc, v_lc2, v_ssc, v_ssc2, v_sst, v_lset, x_nil, x_cons, t_nx, t_brk, t_cnt, t_ret, x_asgF, x_asgT, x_asgp, x_par, sets_nil, sets_cons, x_app, x_ext, x_exp, x_own2, x_newT, x_ret, x_ite, x_for, x_whl, x_frz, fz_o, fz_o2, fz_v, e_rF, e_rT, e_nF, sq_l, sq_t, sx_l, sx_t, sl_l, sq_L, sx_L, sl_L, sq_Ps, sx_Ps, sl_Ps, sq_G, sx_G, sl_G, sx_P, ai, ab, at0, at1, p_add, p_sub, p_lt, p_le, p_gt, p_ge, p_isB, p_isnB, p_isN, p_isnN, y_len, y_lenT, y_lenL, y_lenPs, y_lenG, y_int, y_intB, y_abs, y_min2, y_max2, y_gcd, y_list, y_listL, y_listPs, y_all, wipeE, frE, bib, Option.bind_some, Option.map_some, List.getD_cons_zero, List.getD_cons_succ, List.set_cons_zero, List.set_cons_succ, List.map_cons, List.map_nil, List.length_cons, List.length_nil, List.replicate, List.cons_append, List.nil_append, if_true, if_false, Bool.false_eq_true, Nat.reduceSub, Nat.reduceAdd, Nat.reduceLeDiff, eN, rng_ok (show s < 1000000 by omega), Int.toNat_natCast, rng_map]
              rw [lq]
              · cases hq : (List.range s).find? fun t => !adjB ps (told.getD s []) (told.getD t []) with
                | none => rw [hq] at hb; cases hb
                | some t => rfl
              · intro t ht hb2
                have ht4 : t < s := List.mem_range.mp ht
                have fl := List.length_filter_le (fun p : Nat × Nat => (decide (p.1 ∈ told.getD s []) && decide (p.2 ∈ told.getD t [])) || (decide (p.2 ∈ told.getD s []) && decide (p.1 ∈ told.getD t []))) ps
                simp (implicitDefEqProofs := false) only [turnE_nx, turnE_cnt, rd_0, rd_o, rd_of, rd_s, gO_0, gO_s, gO2_0, gO2_s, bp_nm, bp_tp, bps_nil, bps_cons, bp_eP, v_var, v_int, v_bool, v_str, v_none, v_glb, v_op, v_ch, v_ch3, v_neg, v_not, v_and, v_or, v_b1, v_ife, v_tup, v_lst, v_idx, v_bi, v_call, v_callB, v_rev, v_cut, v_p0, v_p1, vs_nil, vs_cons, f_0, f_1, i_s, i_r1, i_r2, i_e, i_z, v_lc, v_lc2, v_ssc, v_ssc2, v_sst, v_lset, x_nil, x_cons, t_nx, t_brk, t_cnt, t_ret, x_asgF, x_asgT, x_asgp, x_par, sets_nil, sets_cons, x_app, x_ext, x_exp, x_own2, x_newT, x_ret, x_ite, x_for, x_whl, x_frz, fz_o, fz_o2, fz_v, e_rF, e_rT, e_nF, sq_l, sq_t, sx_l, sx_t, sl_l, sq_L, sx_L, sl_L, sq_Ps, sx_Ps, sl_Ps, sq_G, sx_G, sl_G, sx_P, ai, ab, at0, at1, p_add, p_sub, p_lt, p_le, p_gt, p_ge, p_isB, p_isnB, p_isN, p_isnN, y_len, y_lenT, y_lenL, y_lenPs, y_lenG, y_int, y_intB, y_abs, y_min2, y_max2, y_gcd, y_list, y_listL, y_listPs, y_all, wipeE, frE, bib, Option.bind_some, Option.map_some, List.getD_cons_zero, List.getD_cons_succ, List.set_cons_zero, List.set_cons_succ, List.map_cons, List.map_nil, List.length_cons, List.length_nil, List.replicate, List.cons_append, List.nil_append, if_true, if_false, Bool.false_eq_true, Nat.reduceSub, Nat.reduceAdd, Nat.reduceLeDiff, eN, s4 s t (by omega) (by omega), List.length_map, if_lt (show (ps.filter fun p => (decide (p.1 ∈ told.getD s []) && decide (p.2 ∈ told.getD t [])) || (decide (p.2 ∈ told.getD s []) && decide (p.1 ∈ told.getD t []))).length < 1000000 by omega), if_le (show 0 < 1000000 by decide), o_eql0, emp_any2]
                unfold adjB at hb2
                rw [hb2]
                simp (implicitDefEqProofs := false) only [turnE_nx, turnE_cnt, rd_0, rd_o, rd_of, rd_s, gO_0, gO_s, gO2_0, gO2_s, bp_nm, bp_tp, bps_nil, bps_cons, bp_eP, v_var, v_int, v_bool, v_str, v_none, v_glb, v_op, v_ch, v_ch3, v_neg, v_not, v_and, v_or, v_b1, v_ife, v_tup, v_lst, v_idx, v_bi, v_call, v_callB, v_rev, v_cut, v_p0, v_p1, vs_nil, vs_cons, f_0, f_1, i_s, i_r1, i_r2, i_e, i_z, v_lc, v_lc2, v_ssc, v_ssc2, v_sst, v_lset, x_nil, x_cons, t_nx, t_brk, t_cnt, t_ret, x_asgF, x_asgT, x_asgp, x_par, sets_nil, sets_cons, x_app, x_ext, x_exp, x_own2, x_newT, x_ret, x_ite, x_for, x_whl, x_frz, fz_o, fz_o2, fz_v, e_rF, e_rT, e_nF, sq_l, sq_t, sx_l, sx_t, sl_l, sq_L, sx_L, sl_L, sq_Ps, sx_Ps, sl_Ps, sq_G, sx_G, sl_G, sx_P, ai, ab, at0, at1, p_add, p_sub, p_lt, p_le, p_gt, p_ge, p_isB, p_isnB, p_isN, p_isnN, y_len, y_lenT, y_lenL, y_lenPs, y_lenG, y_int, y_intB, y_abs, y_min2, y_max2, y_gcd, y_list, y_listL, y_listPs, y_all, wipeE, frE, bib, Option.bind_some, Option.map_some, List.getD_cons_zero, List.getD_cons_succ, List.set_cons_zero, List.set_cons_succ, List.map_cons, List.map_nil, List.length_cons, List.length_nil, List.replicate, List.cons_append, List.nil_append, if_true, if_false, Bool.false_eq_true, Nat.reduceSub, Nat.reduceAdd, Nat.reduceLeDiff]
              · intro t ht hb2
                have ht4 : t < s := List.mem_range.mp ht
                have fl := List.length_filter_le (fun p : Nat × Nat => (decide (p.1 ∈ told.getD s []) && decide (p.2 ∈ told.getD t [])) || (decide (p.2 ∈ told.getD s []) && decide (p.1 ∈ told.getD t []))) ps
                simp (implicitDefEqProofs := false) only [turnE_nx, turnE_cnt, rd_0, rd_o, rd_of, rd_s, gO_0, gO_s, gO2_0, gO2_s, bp_nm, bp_tp, bps_nil, bps_cons, bp_eP, v_var, v_int, v_bool, v_str, v_none, v_glb, v_op, v_ch, v_ch3, v_neg, v_not, v_and, v_or, v_b1, v_ife, v_tup, v_lst, v_idx, v_bi, v_call, v_callB, v_rev, v_cut, v_p0, v_p1, vs_nil, vs_cons, f_0, f_1, i_s, i_r1, i_r2, i_e, i_z, v_lc, v_lc2, v_ssc, v_ssc2, v_sst, v_lset, x_nil, x_cons, t_nx, t_brk, t_cnt, t_ret, x_asgF, x_asgT, x_asgp, x_par, sets_nil, sets_cons, x_app, x_ext, x_exp, x_own2, x_newT, x_ret, x_ite, x_for, x_whl, x_frz, fz_o, fz_o2, fz_v, e_rF, e_rT, e_nF, sq_l, sq_t, sx_l, sx_t, sl_l, sq_L, sx_L, sl_L, sq_Ps, sx_Ps, sl_Ps, sq_G, sx_G, sl_G, sx_P, ai, ab, at0, at1, p_add, p_sub, p_lt, p_le, p_gt, p_ge, p_isB, p_isnB, p_isN, p_isnN, y_len, y_lenT, y_lenL, y_lenPs, y_lenG, y_int, y_intB, y_abs, y_min2, y_max2, y_gcd, y_list, y_listL, y_listPs, y_all, wipeE, frE, bib, Option.bind_some, Option.map_some, List.getD_cons_zero, List.getD_cons_succ, List.set_cons_zero, List.set_cons_succ, List.map_cons, List.map_nil, List.length_cons, List.length_nil, List.replicate, List.cons_append, List.nil_append, if_true, if_false, Bool.false_eq_true, Nat.reduceSub, Nat.reduceAdd, Nat.reduceLeDiff, eN, s4 s t (by omega) (by omega), List.length_map, if_lt (show (ps.filter fun p => (decide (p.1 ∈ told.getD s []) && decide (p.2 ∈ told.getD t [])) || (decide (p.2 ∈ told.getD s []) && decide (p.1 ∈ told.getD t []))).length < 1000000 by omega), if_le (show 0 < 1000000 by decide), o_eql0, emp_any2]
                unfold adjB at hb2
                rw [hb2]
                refine ⟨_, _, rfl, .inl rfl, rfl⟩
            · intro s hs hb
              have hs4 : s < 4 := List.mem_range.mp hs
              have lq := fun f a b => forGo_find f [7] eN [.val (.int n), .val (ePs ps), .val (eG told), .val (eL told.flatten), .no, .no, .val (.int s), .no, .no, .no] (fun t => !adjB ps (told.getD s []) (told.getD t [])) (fun t => (.ret false (.bool false), [.val (.int n), .val (ePs ps), .val (eG told), .val (eL told.flatten), .no, .no, .val (.int s), .val (.int t), .no, .no])) (fun p => ⟨_, _, rfl⟩) (List.range s) a b
              simp (implicitDefEqProofs := false) only [turnE_nx, turnE_cnt, rd_0, rd_o, rd_of, rd_s, gO_0, gO_s, gO2_0, gO2_s, bp_nm, bp_tp, bps_nil, bps_cons, bp_eP, v_var, v_int, v_bool, v_str, v_none, v_glb, v_op, v_ch, v_ch3, v_neg, v_not, v_and, v_or, v_b1, v_ife, v_tup, v_lst, v_idx, v_bi, v_call, v_callB, v_rev, v_cut, v_p0, v_p1, vs_nil, vs_cons, f_0, f_1, i_s, i_r1, i_r2, i_e, i_z, v_lc, v_lc2, v_ssc, v_ssc2, v_sst, v_lset, x_nil, x_cons, t_nx, t_brk, t_cnt, t_ret, x_asgF, x_asgT, x_asgp, x_par, sets_nil, sets_cons, x_app, x_ext, x_exp, x_own2, x_newT, x_ret, x_ite, x_for, x_whl, x_frz, fz_o, fz_o2, fz_v, e_rF, e_rT, e_nF, sq_l, sq_t, sx_l, sx_t, sl_l, sq_L, sx_L, sl_L, sq_Ps, sx_Ps, sl_Ps, sq_G, sx_G, sl_G, sx_P, ai, ab, at0, at1, p_add, p_sub, p_lt, p_le, p_gt, p_ge, p_isB, p_isnB, p_isN, p_isnN, y_len, y_lenT, y_lenL, y_lenPs, y_lenG, y_int, y_intB, y_abs, y_min2, y_max2, y_gcd, y_list, y_listL, y_listPs, y_all, wipeE, frE, bib, Option.bind_some, Option.map_some, List.getD_cons_zero, List.getD_cons_succ, List.set_cons_zero, List.set_cons_succ, List.map_cons, List.map_nil, List.length_cons, List.length_nil, List.replicate, List.cons_append, List.nil_append, if_true, if_false, Bool.false_eq_true, Nat.reduceSub, Nat.reduceAdd, Nat.reduceLeDiff, eN, rng_ok (show s < 1000000 by omega), Int.toNat_natCast, rng_map]
              rw [lq]
              · cases hq : (List.range s).find? fun t => !adjB ps (told.getD s []) (told.getD t []) with
                | none => exact ⟨_, _, rfl, .inl rfl, rfl⟩
                | some t => rw [hq] at hb; cases hb
              · intro t ht hb2
                have ht4 : t < s := List.mem_range.mp ht
                have fl := List.length_filter_le (fun p : Nat × Nat => (decide (p.1 ∈ told.getD s []) && decide (p.2 ∈ told.getD t [])) || (decide (p.2 ∈ told.getD s []) && decide (p.1 ∈ told.getD t []))) ps
                simp (implicitDefEqProofs := false) only [turnE_nx, turnE_cnt, rd_0, rd_o, rd_of, rd_s, gO_0, gO_s, gO2_0, gO2_s, bp_nm, bp_tp, bps_nil, bps_cons, bp_eP, v_var, v_int, v_bool, v_str, v_none, v_glb, v_op, v_ch, v_ch3, v_neg, v_not, v_and, v_or, v_b1, v_ife, v_tup, v_lst, v_idx, v_bi, v_call, v_callB, v_rev, v_cut, v_p0, v_p1, vs_nil, vs_cons, f_0, f_1, i_s, i_r1, i_r2, i_e, i_z, v_lc, v_lc2, v_ssc, v_ssc2, v_sst, v_lset, x_nil, x_cons, t_nx, t_brk, t_cnt, t_ret, x_asgF, x_asgT, x_asgp, x_par, sets_nil, sets_cons, x_app, x_ext, x_exp, x_own2, x_newT, x_ret, x_ite, x_for, x_whl, x_frz, fz_o, fz_o2, fz_v, e_rF, e_rT, e_nF, sq_l, sq_t, sx_l, sx_t, sl_l, sq_L, sx_L, sl_L, sq_Ps, sx_Ps, sl_Ps, sq_G, sx_G, sl_G, sx_P, ai, ab, at0, at1, p_add, p_sub, p_lt, p_le, p_gt, p_ge, p_isB, p_isnB, p_isN, p_isnN, y_len, y_lenT, y_lenL, y_lenPs, y_lenG, y_int, y_intB, y_abs, y_min2, y_max2, y_gcd, y_list, y_listL, y_listPs, y_all, wipeE, frE, bib, Option.bind_some, Option.map_some, List.getD_cons_zero, List.getD_cons_succ, List.set_cons_zero, List.set_cons_succ, List.map_cons, List.map_nil, List.length_cons, List.length_nil, List.replicate, List.cons_append, List.nil_append, if_true, if_false, Bool.false_eq_true, Nat.reduceSub, Nat.reduceAdd, Nat.reduceLeDiff, eN, s4 s t (by omega) (by omega), List.length_map, if_lt (show (ps.filter fun p => (decide (p.1 ∈ told.getD s []) && decide (p.2 ∈ told.getD t [])) || (decide (p.2 ∈ told.getD s []) && decide (p.1 ∈ told.getD t []))).length < 1000000 by omega), if_le (show 0 < 1000000 by decide), o_eql0, emp_any2]
                unfold adjB at hb2
                rw [hb2]
                simp (implicitDefEqProofs := false) only [turnE_nx, turnE_cnt, rd_0, rd_o, rd_of, rd_s, gO_0, gO_s, gO2_0, gO2_s, bp_nm, bp_tp, bps_nil, bps_cons, bp_eP, v_var, v_int, v_bool, v_str, v_none, v_glb, v_op, v_ch, v_ch3, v_neg, v_not, v_and, v_or, v_b1, v_ife, v_tup, v_lst, v_idx, v_bi, v_call, v_callB, v_rev, v_cut, v_p0, v_p1, vs_nil, vs_cons, f_0, f_1, i_s, i_r1, i_r2, i_e, i_z, v_lc, v_lc2, v_ssc, v_ssc2, v_sst, v_lset, x_nil, x_cons, t_nx, t_brk, t_cnt, t_ret, x_asgF, x_asgT, x_asgp, x_par, sets_nil, sets_cons, x_app, x_ext, x_exp, x_own2, x_newT, x_ret, x_ite, x_for, x_whl, x_frz, fz_o, fz_o2, fz_v, e_rF, e_rT, e_nF, sq_l, sq_t, sx_l, sx_t, sl_l, sq_L, sx_L, sl_L, sq_Ps, sx_Ps, sl_Ps, sq_G, sx_G, sl_G, sx_P, ai, ab, at0, at1, p_add, p_sub, p_lt, p_le, p_gt, p_ge, p_isB, p_isnB, p_isN, p_isnN, y_len, y_lenT, y_lenL, y_lenPs, y_lenG, y_int, y_intB, y_abs, y_min2, y_max2, y_gcd, y_list, y_listL, y_listPs, y_all, wipeE, frE, bib, Option.bind_some, Option.map_some, List.getD_cons_zero, List.getD_cons_succ, List.set_cons_zero, List.set_cons_succ, List.map_cons, List.map_nil, List.length_cons, List.length_nil, List.replicate, List.cons_append, List.nil_append, if_true, if_false, Bool.false_eq_true, Nat.reduceSub, Nat.reduceAdd, Nat.reduceLeDiff]
              · intro t ht hb2
                have ht4 : t < s := List.mem_range.mp ht
                have fl := List.length_filter_le (fun p : Nat × Nat => (decide (p.1 ∈ told.getD s []) && decide (p.2 ∈ told.getD t [])) || (decide (p.2 ∈ told.getD s []) && decide (p.1 ∈ told.getD t []))) ps
                simp (implicitDefEqProofs := false) only [turnE_nx, turnE_cnt, rd_0, rd_o, rd_of, rd_s, gO_0, gO_s, gO2_0, gO2_s, bp_nm, bp_tp, bps_nil, bps_cons, bp_eP, v_var, v_int, v_bool, v_str, v_none, v_glb, v_op, v_ch, v_ch3, v_neg, v_not, v_and, v_or, v_b1, v_ife, v_tup, v_lst, v_idx, v_bi, v_call, v_callB, v_rev, v_cut, v_p0, v_p1, vs_nil, vs_cons, f_0, f_1, i_s, i_r1, i_r2, i_e, i_z, v_lc, v_lc2, v_ssc, v_ssc2, v_sst, v_lset, x_nil, x_cons, t_nx, t_brk, t_cnt, t_ret, x_asgF, x_asgT, x_asgp, x_par, sets_nil, sets_cons, x_app, x_ext, x_exp, x_own2, x_newT, x_ret, x_ite, x_for, x_whl, x_frz, fz_o, fz_o2, fz_v, e_rF, e_rT, e_nF, sq_l, sq_t, sx_l, sx_t, sl_l, sq_L, sx_L, sl_L, sq_Ps, sx_Ps, sl_Ps, sq_G, sx_G, sl_G, sx_P, ai, ab, at0, at1, p_add, p_sub, p_lt, p_le, p_gt, p_ge, p_isB, p_isnB, p_isN, p_isnN, y_len, y_lenT, y_lenL, y_lenPs, y_lenG, y_int, y_intB, y_abs, y_min2, y_max2, y_gcd, y_list, y_listL, y_listPs, y_all, wipeE, frE, bib, Option.bind_some, Option.map_some, List.getD_cons_zero, List.getD_cons_succ, List.set_cons_zero, List.set_cons_succ, List.map_cons, List.map_nil, List.length_cons, List.length_nil, List.replicate, List.cons_append, List.nil_append, if_true, if_false, Bool.false_eq_true, Nat.reduceSub, Nat.reduceAdd, Nat.reduceLeDiff, eN, s4 s t (by omega) (by omega), List.length_map, if_lt (show (ps.filter fun p => (decide (p.1 ∈ told.getD s []) && decide (p.2 ∈ told.getD t [])) || (decide (p.2 ∈ told.getD s []) && decide (p.1 ∈ told.getD t []))).length < 1000000 by omega), if_le (show 0 < 1000000 by decide), o_eql0, emp_any2]
                unfold adjB at hb2
                rw [hb2]
                refine ⟨_, _, rfl, .inl rfl, rfl⟩
  · rw [decide_eq_false c1]
    simp (implicitDefEqProofs := false) only [turnE_nx, turnE_cnt, rd_0, rd_o, rd_of, rd_s, gO_0, gO_s, gO2_0, gO2_s, bp_nm, bp_tp, bps_nil, bps_cons, bp_eP, v_var, v_int, v_bool, v_str, v_none, v_glb, v_op, v_ch, v_ch3, v_neg, v_not, v_and, v_or, v_b1, v_ife, v_tup, v_lst, v_idx, v_bi, v_call, v_callB, v_rev, v_cut, v_p0, v_p1, vs_nil, vs_cons, f_0, f_1, i_s, i_r1, i_r2, i_e, i_z, v_lc, v_lc2, v_ssc, v_ssc2, v_sst, v_lset, x_nil, x_cons, t_nx, t_brk, t_cnt, t_ret, x_asgF, x_asgT, x_asgp, x_par, sets_nil, sets_cons, x_app, x_ext, x_exp, x_own2, x_newT, x_ret, x_ite, x_for, x_whl, x_frz, fz_o, fz_o2, fz_v, e_rF, e_rT, e_nF, sq_l, sq_t, sx_l, sx_t, sl_l, sq_L, sx_L, sl_L, sq_Ps, sx_Ps, sl_Ps, sq_G, sx_G, sl_G, sx_P, ai, ab, at0, at1, p_add, p_sub, p_lt, p_le, p_gt, p_ge, p_isB, p_isnB, p_isN, p_isnN, y_len, y_lenT, y_lenL, y_lenPs, y_lenG, y_int, y_intB, y_abs, y_min2, y_max2, y_gcd, y_list, y_listL, y_listPs, y_all, wipeE, frE, bib, Option.bind_some, Option.map_some, List.getD_cons_zero, List.getD_cons_succ, List.set_cons_zero, List.set_cons_succ, List.map_cons, List.map_nil, List.length_cons, List.length_nil, List.replicate, List.cons_append, List.nil_append, if_true, if_false, Bool.false_eq_true, Nat.reduceSub, Nat.reduceAdd, Nat.reduceLeDiff, Bool.not_false, Bool.true_or]
end K19

set_option Elab.async false
set_option linter.all false
set_option maxRecDepth 100000
set_option maxHeartbeats 4000000
namespace K19
open PySem Pv
theorem forGo_n {α S : Type} (f : D → En → Option (Fl × En)) (kill : List Nat) (e : α → D) (en : S → En) (st : S → α → S) (Iv : Nat → S → Prop) (M : Nat) : ∀ (xs : List α) (s : S) (i : Nat), Iv i s → i + xs.length ≤ M → (∀ i s x, x ∈ xs → i < M → Iv i s → turnE kill (f (e x) (en s)) = some (en (st s x)) ∧ Iv (i + 1) (st s x)) → forGo f kill (xs.map e) (en s) = some (.nx, en (xs.foldl st s)) ∧ Iv (i + xs.length) (xs.foldl st s)
  | [], s, i, h, _, _ => ⟨rfl, h⟩
  | x :: xs, s, i, h, hl, ht => by
    rw [List.length_cons] at hl
    obtain ⟨t1, t2⟩ := ht i s x (List.mem_cons_self ..) (by omega) h
    obtain ⟨fl, ρ', e1, e2, e3⟩ := turnE_some t1
    have ih := forGo_n f kill e en st Iv M xs (st s x) (i + 1) t2 (by omega) fun i s y hy => ht i s y (List.mem_cons_of_mem _ hy)
    rw [show i + 1 + xs.length = i + (x :: xs).length by rw [List.length_cons]; omega] at ih
    refine ⟨?_, ih.2⟩
    rw [List.map_cons, List.foldl_cons]
    simp only [forGo, e1, Option.bind_some]
    rcases e2 with rfl | rfl
    · simp only [e3]; exact ih.1
    · simp only [e3]; exact ih.1
def rput (v : Nat) (row : List (List Nat)) (s : Nat) : List (List Nat) := row.take s ++ [row.getD s [] ++ [v]] ++ row.drop (s + 1)
def rst (v : Nat) (row : List (List Nat)) (more : List (List (List Nat))) (s : Nat) : List (List (List Nat)) := if (decide (s = 0) || !decide (row.getD (s - 1) [] = [])) = true then more ++ [rput v row s] else more
def rmid (v : Nat) (more : List (List (List Nat))) (row : List (List Nat)) : List (List (List Nat)) := (List.range 4).foldl (rst v row) more
def rnext (rows : List (List (List Nat))) (v : Nat) : List (List (List Nat)) := rows ++ rows.foldl (rmid v) []
def rowsN (n : Nat) : List (List (List Nat)) := (List.range n).foldl rnext [[[], [], [], []]]
def hasM (n : Nat) (ps : List (Nat × Nat)) : Bool := (rowsN n).any (lafM n ps)
theorem sh_mapGG (l : List (List (List Nat))) : SeqAt.shaped (.list (l.map eG)) = true := sh_GG l
theorem o_catG' (l m : List (List Nat)) : op2 .add (eG l) (.list (m.map eL)) = if l.length + m.length ≤ line then some (eG (l ++ m)) else none := o_catG l m
theorem o_catv (l : List Nat) (v : Nat) : op2 .add (eL l) (.list [.int (v : Int)]) = if l.length + 1 ≤ line then some (eL (l ++ [v])) else none := o_catL l [v]
theorem o_neLn (l : List Nat) : op2 .ne (eL l) (.list []) = some (.bool (!decide (l = []))) := o_neL l []
theorem at_Gm (gs : List (List Nat)) (s : Nat) (hs : ¬ s = 0) (h : s ≤ gs.length) : L2.atI (gs.map eL) ((s : Int) - 1) = some (eL (gs.getD (s - 1) [])) := by
  rw [show ((s : Int) - 1) = ((s - 1 : Nat) : Int) by omega]
  exact at_G gs (s - 1) (by omega)
theorem rst_turn (N k v : Nat) (row : List (List Nat)) (more : List (List (List Nat))) (s : Nat) (hs : s < 4) (hr : row.length = 4) (hm : ∀ g ∈ row, g.length < 60) (hl : more.length < 10000) (e0 e1 e2 : Ent) : turnE [6] ((bindPat (.nm 6) (eN s) [e0, e1, e2, .val (.int v), .own (more.map eG), .val (eG row), .no]).bind fun ρ1 => exs (CG N k) N (.cons (.ite (.bool false (.cons (.op .eq (.var 6) (.con (.int 0))) (.cons (.op .ne (.idx (.var 5) (.op .sub (.var 6) (.con (.int 1)))) (.lst .nil)) .nil))) (.cons (.app 4 (.op .add (.op .add (.cut (.var 5) none (some (.var 6))) (.lst (.cons (.op .add (.idx (.var 5) (.var 6)) (.lst (.cons (.var 3) .nil))) .nil))) (.cut (.var 5) (some (.op .add (.var 6) (.con (.int 1)))) none))) .nil) .nil) .nil) ρ1) = some [e0, e1, e2, .val (.int v), .own ((rst v row more s).map eG), .val (eG row), .no] := by
  have gl := getD_len (i := s) hm (by decide)
  have s1 : ((s : Int) + 1) = ((s + 1 : Nat) : Int) := rfl
  have z0 : decide ((s : Int) = 0) = decide (s = 0) := decide_eq_decide.mpr (by omega)
  have tl : (row.take s).length ≤ 4 := by rw [List.length_take]; omega
  have dl : (row.drop (s + 1)).length ≤ 4 := by rw [List.length_drop]; omega
  unfold rst rput
  simp (implicitDefEqProofs := false) only [turnE_nx, turnE_cnt, rd_0, rd_o, rd_of, rd_s, gO_0, gO_s, gO2_0, gO2_s, bp_nm, bp_tp, bps_nil, bps_cons, bp_eP, v_var, v_int, v_bool, v_str, v_none, v_glb, v_op, v_ch, v_ch3, v_neg, v_not, v_and, v_or, v_b1, v_ife, v_tup, v_lst, v_idx, v_bi, v_call, v_callB, v_rev, v_cut, v_p0, v_p1, vs_nil, vs_cons, f_0, f_1, i_s, i_r1, i_r2, i_e, i_z, v_lc, v_lc2, v_ssc, v_ssc2, v_sst, v_lset, x_nil, x_cons, t_nx, t_brk, t_cnt, t_ret, x_asgF, x_asgT, x_asgp, x_par, sets_nil, sets_cons, x_app, x_ext, x_exp, x_own2, x_newT, x_ret, x_ite, x_for, x_whl, x_frz, fz_o, fz_o2, fz_v, e_rF, e_rT, e_nF, sq_l, sq_t, sx_l, sx_t, sl_l, sq_L, sx_L, sl_L, sq_Ps, sx_Ps, sl_Ps, sq_G, sx_G, sl_G, sx_P, ai, ab, at0, at1, p_add, p_sub, p_lt, p_le, p_gt, p_ge, p_isB, p_isnB, p_isN, p_isnN, y_len, y_lenT, y_lenL, y_lenPs, y_lenG, y_int, y_intB, y_abs, y_min2, y_max2, y_gcd, y_list, y_listL, y_listPs, y_all, wipeE, frE, bib, Option.bind_some, Option.map_some, List.getD_cons_zero, List.getD_cons_succ, List.set_cons_zero, List.set_cons_succ, List.map_cons, List.map_nil, List.length_cons, List.length_nil, List.replicate, List.cons_append, List.nil_append, if_true, if_false, Bool.false_eq_true, Nat.reduceSub, Nat.reduceAdd, Nat.reduceLeDiff, eN, o_eqI, z0]
  by_cases h0 : s = 0
  · rw [decide_eq_true h0]
    simp (implicitDefEqProofs := false) only [turnE_nx, turnE_cnt, rd_0, rd_o, rd_of, rd_s, gO_0, gO_s, gO2_0, gO2_s, bp_nm, bp_tp, bps_nil, bps_cons, bp_eP, v_var, v_int, v_bool, v_str, v_none, v_glb, v_op, v_ch, v_ch3, v_neg, v_not, v_and, v_or, v_b1, v_ife, v_tup, v_lst, v_idx, v_bi, v_call, v_callB, v_rev, v_cut, v_p0, v_p1, vs_nil, vs_cons, f_0, f_1, i_s, i_r1, i_r2, i_e, i_z, v_lc, v_lc2, v_ssc, v_ssc2, v_sst, v_lset, x_nil, x_cons, t_nx, t_brk, t_cnt, t_ret, x_asgF, x_asgT, x_asgp, x_par, sets_nil, sets_cons, x_app, x_ext, x_exp, x_own2, x_newT, x_ret, x_ite, x_for, x_whl, x_frz, fz_o, fz_o2, fz_v, e_rF, e_rT, e_nF, sq_l, sq_t, sx_l, sx_t, sl_l, sq_L, sx_L, sl_L, sq_Ps, sx_Ps, sl_Ps, sq_G, sx_G, sl_G, sx_P, ai, ab, at0, at1, p_add, p_sub, p_lt, p_le, p_gt, p_ge, p_isB, p_isnB, p_isN, p_isnN, y_len, y_lenT, y_lenL, y_lenPs, y_lenG, y_int, y_intB, y_abs, y_min2, y_max2, y_gcd, y_list, y_listL, y_listPs, y_all, wipeE, frE, bib, Option.bind_some, Option.map_some, List.getD_cons_zero, List.getD_cons_succ, List.set_cons_zero, List.set_cons_succ, List.map_cons, List.map_nil, List.length_cons, List.length_nil, List.replicate, List.cons_append, List.nil_append, if_true, if_false, Bool.false_eq_true, Nat.reduceSub, Nat.reduceAdd, Nat.reduceLeDiff, Bool.true_or, cut_to, at_G row s (by omega), if_le (show 1 < 1000000 by decide), o_catv, if_le (show (row.getD s []).length + 1 < 1000000 by omega), o_catG1, if_le (show (row.take s).length + 1 < 1000000 by omega), s1, cut_from, o_catG', List.length_append, if_le (show (row.take s).length + (0 + 1) + (row.drop (s + 1)).length < 1000000 by omega), List.length_map, if_lt (show more.length < 1000000 by omega), List.map_append]
  · rw [decide_eq_false h0]
    simp (implicitDefEqProofs := false) only [turnE_nx, turnE_cnt, rd_0, rd_o, rd_of, rd_s, gO_0, gO_s, gO2_0, gO2_s, bp_nm, bp_tp, bps_nil, bps_cons, bp_eP, v_var, v_int, v_bool, v_str, v_none, v_glb, v_op, v_ch, v_ch3, v_neg, v_not, v_and, v_or, v_b1, v_ife, v_tup, v_lst, v_idx, v_bi, v_call, v_callB, v_rev, v_cut, v_p0, v_p1, vs_nil, vs_cons, f_0, f_1, i_s, i_r1, i_r2, i_e, i_z, v_lc, v_lc2, v_ssc, v_ssc2, v_sst, v_lset, x_nil, x_cons, t_nx, t_brk, t_cnt, t_ret, x_asgF, x_asgT, x_asgp, x_par, sets_nil, sets_cons, x_app, x_ext, x_exp, x_own2, x_newT, x_ret, x_ite, x_for, x_whl, x_frz, fz_o, fz_o2, fz_v, e_rF, e_rT, e_nF, sq_l, sq_t, sx_l, sx_t, sl_l, sq_L, sx_L, sl_L, sq_Ps, sx_Ps, sl_Ps, sq_G, sx_G, sl_G, sx_P, ai, ab, at0, at1, p_add, p_sub, p_lt, p_le, p_gt, p_ge, p_isB, p_isnB, p_isN, p_isnN, y_len, y_lenT, y_lenL, y_lenPs, y_lenG, y_int, y_intB, y_abs, y_min2, y_max2, y_gcd, y_list, y_listL, y_listPs, y_all, wipeE, frE, bib, Option.bind_some, Option.map_some, List.getD_cons_zero, List.getD_cons_succ, List.set_cons_zero, List.set_cons_succ, List.map_cons, List.map_nil, List.length_cons, List.length_nil, List.replicate, List.cons_append, List.nil_append, if_true, if_false, Bool.false_eq_true, Nat.reduceSub, Nat.reduceAdd, Nat.reduceLeDiff, Bool.false_or, at_Gm row s h0 (by omega), if_le (show 0 < 1000000 by decide), o_neLn]
    by_cases h1 : row.getD (s - 1) [] = []
    · rw [decide_eq_true h1]
      simp (implicitDefEqProofs := false) only [turnE_nx, turnE_cnt, rd_0, rd_o, rd_of, rd_s, gO_0, gO_s, gO2_0, gO2_s, bp_nm, bp_tp, bps_nil, bps_cons, bp_eP, v_var, v_int, v_bool, v_str, v_none, v_glb, v_op, v_ch, v_ch3, v_neg, v_not, v_and, v_or, v_b1, v_ife, v_tup, v_lst, v_idx, v_bi, v_call, v_callB, v_rev, v_cut, v_p0, v_p1, vs_nil, vs_cons, f_0, f_1, i_s, i_r1, i_r2, i_e, i_z, v_lc, v_lc2, v_ssc, v_ssc2, v_sst, v_lset, x_nil, x_cons, t_nx, t_brk, t_cnt, t_ret, x_asgF, x_asgT, x_asgp, x_par, sets_nil, sets_cons, x_app, x_ext, x_exp, x_own2, x_newT, x_ret, x_ite, x_for, x_whl, x_frz, fz_o, fz_o2, fz_v, e_rF, e_rT, e_nF, sq_l, sq_t, sx_l, sx_t, sl_l, sq_L, sx_L, sl_L, sq_Ps, sx_Ps, sl_Ps, sq_G, sx_G, sl_G, sx_P, ai, ab, at0, at1, p_add, p_sub, p_lt, p_le, p_gt, p_ge, p_isB, p_isnB, p_isN, p_isnN, y_len, y_lenT, y_lenL, y_lenPs, y_lenG, y_int, y_intB, y_abs, y_min2, y_max2, y_gcd, y_list, y_listL, y_listPs, y_all, wipeE, frE, bib, Option.bind_some, Option.map_some, List.getD_cons_zero, List.getD_cons_succ, List.set_cons_zero, List.set_cons_succ, List.map_cons, List.map_nil, List.length_cons, List.length_nil, List.replicate, List.cons_append, List.nil_append, if_true, if_false, Bool.false_eq_true, Nat.reduceSub, Nat.reduceAdd, Nat.reduceLeDiff, Bool.not_true]
    · rw [decide_eq_false h1]
      simp (implicitDefEqProofs := false) only [turnE_nx, turnE_cnt, rd_0, rd_o, rd_of, rd_s, gO_0, gO_s, gO2_0, gO2_s, bp_nm, bp_tp, bps_nil, bps_cons, bp_eP, v_var, v_int, v_bool, v_str, v_none, v_glb, v_op, v_ch, v_ch3, v_neg, v_not, v_and, v_or, v_b1, v_ife, v_tup, v_lst, v_idx, v_bi, v_call, v_callB, v_rev, v_cut, v_p0, v_p1, vs_nil, vs_cons, f_0, f_1, i_s, i_r1, i_r2, i_e, i_z, v_lc, v_lc2, v_ssc, v_ssc2, v_sst, v_lset, x_nil, x_cons, t_nx, t_brk, t_cnt, t_ret, x_asgF, x_asgT, x_asgp, x_par, sets_nil, sets_cons, x_app, x_ext, x_exp, x_own2, x_newT, x_ret, x_ite, x_for, x_whl, x_frz, fz_o, fz_o2, fz_v, e_rF, e_rT, e_nF, sq_l, sq_t, sx_l, sx_t, sl_l, sq_L, sx_L, sl_L, sq_Ps, sx_Ps, sl_Ps, sq_G, sx_G, sl_G, sx_P, ai, ab, at0, at1, p_add, p_sub, p_lt, p_le, p_gt, p_ge, p_isB, p_isnB, p_isN, p_isnN, y_len, y_lenT, y_lenL, y_lenPs, y_lenG, y_int, y_intB, y_abs, y_min2, y_max2, y_gcd, y_list, y_listL, y_listPs, y_all, wipeE, frE, bib, Option.bind_some, Option.map_some, List.getD_cons_zero, List.getD_cons_succ, List.set_cons_zero, List.set_cons_succ, List.map_cons, List.map_nil, List.length_cons, List.length_nil, List.replicate, List.cons_append, List.nil_append, if_true, if_false, Bool.false_eq_true, Nat.reduceSub, Nat.reduceAdd, Nat.reduceLeDiff, Bool.not_false, cut_to, at_G row s (by omega), if_le (show 1 < 1000000 by decide), o_catv, if_le (show (row.getD s []).length + 1 < 1000000 by omega), o_catG1, if_le (show (row.take s).length + 1 < 1000000 by omega), s1, cut_from, o_catG', List.length_append, if_le (show (row.take s).length + (0 + 1) + (row.drop (s + 1)).length < 1000000 by omega), List.length_map, if_lt (show more.length < 1000000 by omega), List.map_append]
theorem rst_len (v : Nat) (row : List (List Nat)) (more : List (List (List Nat))) (s : Nat) : (rst v row more s).length ≤ more.length + 1 := by
  unfold rst
  split
  · rw [List.length_append]; exact Nat.le_refl _
  · omega
end K19

set_option Elab.async false
set_option linter.all false
set_option maxRecDepth 100000
set_option maxHeartbeats 4000000
namespace K19
open PySem Pv
def Gr (i : Nat) (row : List (List Nat)) : Prop := row.length = 4 ∧ row.flatten.length ≤ i
theorem flen_mem {row : List (List Nat)} {g : List Nat} (h : g ∈ row) : g.length ≤ row.flatten.length := by
  induction row with
  | nil => cases h
  | cons a r ih =>
    rw [List.flatten_cons, List.length_append]
    rcases List.mem_cons.mp h with rfl | h
    · omega
    · have := ih h; omega
theorem fl_split (row : List (List Nat)) (s : Nat) (h : s < row.length) : row.flatten.length = (row.take s).flatten.length + (row.getD s []).length + (row.drop (s + 1)).flatten.length := by
  have e : row = row.take s ++ (row.getD s [] :: row.drop (s + 1)) := by
    rw [List.getD_eq_getElem?_getD, List.getElem?_eq_getElem h, Option.getD_some, ← List.drop_eq_getElem_cons h, List.take_append_drop]
  have := congrArg (fun l => (List.flatten l).length) e
  simp only [List.flatten_append, List.flatten_cons, List.length_append] at this
  omega
theorem rput_ok {i v s : Nat} {row : List (List Nat)} (h : Gr i row) (hs : s < 4) : Gr (i + 1) (rput v row s) := by
  obtain ⟨h1, h2⟩ := h
  have h3 := fl_split row s (by omega)
  unfold rput
  refine ⟨?_, ?_⟩
  · simp only [List.length_append, List.length_take, List.length_drop, List.length_cons, List.length_nil]; omega
  · simp only [List.flatten_append, List.flatten_cons, List.flatten_nil, List.length_append, List.length_cons, List.length_nil]; omega
theorem rst_ok {i v s : Nat} {row : List (List Nat)} {more : List (List (List Nat))} (h : Gr i row) (hs : s < 4) (hm : ∀ r ∈ more, Gr (i + 1) r) : ∀ r ∈ rst v row more s, Gr (i + 1) r := by
  intro r hr
  unfold rst at hr
  split at hr
  · rcases List.mem_append.mp hr with hr | hr
    · exact hm r hr
    · rw [List.mem_singleton.mp hr]; exact rput_ok h hs
  · exact hm r hr
theorem rmid_eq (v : Nat) (more : List (List (List Nat))) (row : List (List Nat)) : rmid v more row = rst v row (rst v row (rst v row (rst v row more 0) 1) 2) 3 := rfl
theorem rmid_ok {i v : Nat} {row : List (List Nat)} {more : List (List (List Nat))} (h : Gr i row) (hm : ∀ r ∈ more, Gr (i + 1) r) : ∀ r ∈ rmid v more row, Gr (i + 1) r := by
  rw [rmid_eq]
  exact rst_ok h (by decide) (rst_ok h (by decide) (rst_ok h (by decide) (rst_ok h (by decide) hm)))
theorem rmid_len (v : Nat) (more : List (List (List Nat))) (row : List (List Nat)) : (rmid v more row).length ≤ more.length + 4 := by
  rw [rmid_eq]
  have a1 := rst_len v row more 0
  have a2 := rst_len v row (rst v row more 0) 1
  have a3 := rst_len v row (rst v row (rst v row more 0) 1) 2
  have a4 := rst_len v row (rst v row (rst v row (rst v row more 0) 1) 2) 3
  omega
theorem rfold_ok {i v : Nat} : ∀ (rows more : List (List (List Nat))), (∀ r ∈ rows, Gr i r) → (∀ r ∈ more, Gr (i + 1) r) → (∀ r ∈ rows.foldl (rmid v) more, Gr (i + 1) r) ∧ (rows.foldl (rmid v) more).length ≤ more.length + 4 * rows.length
  | [], more, _, h => ⟨h, by simp⟩
  | row :: rows, more, h1, h2 => by
    have a := rfold_ok (v := v) rows (rmid v more row) (fun r hr => h1 r (List.mem_cons_of_mem _ hr)) (rmid_ok (h1 row (List.mem_cons_self ..)) h2)
    have b := rmid_len v more row
    rw [List.foldl_cons, List.length_cons]
    exact ⟨a.1, by omega⟩
def RI (i : Nat) (rows : List (List (List Nat))) : Prop := rows.length ≤ 5 ^ i ∧ ∀ r ∈ rows, Gr i r
theorem rnext_ok {i v : Nat} {rows : List (List (List Nat))} (h : RI i rows) : RI (i + 1) (rnext rows v) := by
  obtain ⟨h1, h2⟩ := h
  obtain ⟨a, b⟩ := rfold_ok (v := v) rows [] h2 (fun r hr => by cases hr)
  unfold rnext
  refine ⟨?_, fun r hr => ?_⟩
  · rw [List.length_append, Nat.pow_succ]
    simp only [List.length_nil] at b
    omega
  · rcases List.mem_append.mp hr with hr | hr
    · exact ⟨(h2 r hr).1, Nat.le_succ_of_le (h2 r hr).2⟩
    · exact a r hr
theorem rows_ok : ∀ (l : List Nat) (rows : List (List (List Nat))) (i : Nat), RI i rows → RI (i + l.length) (l.foldl rnext rows)
  | [], rows, i, h => h
  | v :: l, rows, i, h => by
    have := rows_ok l (rnext rows v) (i + 1) (rnext_ok h)
    rw [List.foldl_cons, List.length_cons, show i + (l.length + 1) = i + 1 + l.length by omega]
    exact this
theorem rowsN_ok (n : Nat) : RI n (rowsN n) := by
  have := rows_ok (List.range n) [[[], [], [], []]] 0 ⟨by decide, fun r hr => by rw [List.mem_singleton.mp hr]; exact ⟨rfl, by decide⟩⟩
  rw [List.length_range, Nat.zero_add] at this
  exact this
theorem o_catGG (l m : List (List (List Nat))) : op2 .add (.list (l.map eG)) (.list (m.map eG)) = if l.length + m.length ≤ line then some (.list ((l ++ m).map eG)) else none := by
  show (if (l.map eG).length + (m.map eG).length ≤ line then some (PyData.list (l.map eG ++ m.map eG)) else none) = _
  rw [List.length_map, List.length_map, ← List.map_append]
theorem o_neGG0 (l : List (List (List Nat))) : op2 .ne (.list (l.map eG)) (.list []) = some (.bool !l.isEmpty) := by
  rw [o_neNil (sh_mapGG l)]
  cases l <;> rfl
theorem h_filt (N : Nat) (C : Str → List D → Option D) (Fr : Str → Bool) (n : Nat) (ps : List (Nat × Nat)) (rows : List (List (List Nat))) (h : ∀ g ∈ rows, C "_law_are_four" [.int n, ePs ps, eG g] = some (.bool (lafM n ps g))) (e2 e3 e4 e6 : Ent) : lcGo (elOf ⟨C, Fr⟩ [.val (.int n), .val (ePs ps), e2, e3, e4, .no, e6] (.var 5) (.nm 5) (.cons (.call "_law_are_four" (.cons (.var 0) (.cons (.var 1) (.cons (.var 5) .nil)))) .nil) [5]) (rows.map eG) = some ((rows.filter (lafM n ps)).map eG) := by
  rw [lcGo_filter _ eG (lafM n ps) rows fun g hg => ?_]
  simp (implicitDefEqProofs := false) only [elOf, turnE_nx, turnE_cnt, rd_0, rd_o, rd_of, rd_s, gO_0, gO_s, gO2_0, gO2_s, bp_nm, bp_tp, bps_nil, bps_cons, bp_eP, v_var, v_int, v_bool, v_str, v_none, v_glb, v_op, v_ch, v_ch3, v_neg, v_not, v_and, v_or, v_b1, v_ife, v_tup, v_lst, v_idx, v_bi, v_call, v_callB, v_rev, v_cut, v_p0, v_p1, vs_nil, vs_cons, f_0, f_1, i_s, i_r1, i_r2, i_e, i_z, v_lc, v_lc2, v_ssc, v_ssc2, v_sst, v_lset, x_nil, x_cons, t_nx, t_brk, t_cnt, t_ret, x_asgF, x_asgT, x_asgp, x_par, sets_nil, sets_cons, x_app, x_ext, x_exp, x_own2, x_newT, x_ret, x_ite, x_for, x_whl, x_frz, fz_o, fz_o2, fz_v, e_rF, e_rT, e_nF, sq_l, sq_t, sx_l, sx_t, sl_l, sq_L, sx_L, sl_L, sq_Ps, sx_Ps, sl_Ps, sq_G, sx_G, sl_G, sx_P, ai, ab, at0, at1, p_add, p_sub, p_lt, p_le, p_gt, p_ge, p_isB, p_isnB, p_isN, p_isnN, y_len, y_lenT, y_lenL, y_lenPs, y_lenG, y_int, y_intB, y_abs, y_min2, y_max2, y_gcd, y_list, y_listL, y_listPs, y_all, wipeE, frE, bib, Option.bind_some, Option.map_some, List.getD_cons_zero, List.getD_cons_succ, List.set_cons_zero, List.set_cons_succ, List.map_cons, List.map_nil, List.length_cons, List.length_nil, List.replicate, List.cons_append, List.nil_append, if_true, if_false, Bool.false_eq_true, Nat.reduceSub, Nat.reduceAdd, Nat.reduceLeDiff, h g hg]
  cases lafM n ps g <;> rfl
theorem r_law_has_four (N k n : Nat) (ps : List (Nat × Nat)) (hn : n ≤ 5) (hp : ps.length < 900) : cal (tabOf fds) N (k + 3) "_law_has_four" [.int n, ePs ps] = some (.bool (hasM n ps)) := by
  rw [c_law_has_four _ _ _ rfl, b_law_has_four]
  have r1 : ∀ g, Gr n g → cal (tabOf fds) N (k + 2) "_law_are_four" [.int n, ePs ps, eG g] = some (.bool (lafM n ps g)) := fun g hg => r_law_are_four N k n ps g hp (by rw [hg.1]; decide) (by have := hg.2; omega) (fun x hx => by have := flen_mem hx; have := hg.2; omega)
  have tn := fun v row more s hs hr hm hl => rst_turn N (k + 2) v row more s hs hr hm hl (.val (.int n)) (.val (ePs ps))
  revert r1 tn
  unfold CG
  generalize cal (tabOf fds) N (k + 2) = C
  intro r1 tn
  have l0 : ([.list [.list [], .list [], .list [], .list []]] : List D) = [[[], [], [], []]].map eG := rfl
  have lgg : ∀ gs : List (List (List Nat)), PyData.list (gs.map eG) = PyData.list (gs.map eG) := fun _ => rfl
  have lp := fun f ht => forGo_n f [3, 4, 5, 6] eN (fun rows : List (List (List Nat)) => [.val (.int n), .val (ePs ps), .val (.list (rows.map eG)), .no, .no, .no, .no]) rnext RI 5 (List.range n) [[[], [], [], []]] 0 ⟨by decide, fun r hr => by rw [List.mem_singleton.mp hr]; exact ⟨rfl, by decide⟩⟩ (by rw [List.length_range]; omega) ht
  simp (implicitDefEqProofs := false) only [turnE_nx, turnE_cnt, rd_0, rd_o, rd_of, rd_s, gO_0, gO_s, gO2_0, gO2_s, bp_nm, bp_tp, bps_nil, bps_cons, bp_eP, v_var, v_int, v_bool, v_str, v_none, v_glb, v_op, v_ch, v_ch3, v_neg, v_not, v_and, v_or, v_b1, v_ife, v_tup, v_lst, v_idx, v_bi, v_call, v_callB, v_rev, v_cut, v_p0, v_p1, vs_nil, vs_cons, f_0, f_1, i_s, i_r1, i_r2, i_e, i_z, v_lc, v_lc2, v_ssc, v_ssc2, v_sst, v_lset, x_nil, x_cons, t_nx, t_brk, t_cnt, t_ret, x_asgF, x_asgT, x_asgp, x_par, sets_nil, sets_cons, x_app, x_ext, x_exp, x_own2, x_newT, x_ret, x_ite, x_for, x_whl, x_frz, fz_o, fz_o2, fz_v, e_rF, e_rT, e_nF, sq_l, sq_t, sx_l, sx_t, sl_l, sq_L, sx_L, sl_L, sq_Ps, sx_Ps, sl_Ps, sq_G, sx_G, sl_G, sx_P, ai, ab, at0, at1, p_add, p_sub, p_lt, p_le, p_gt, p_ge, p_isB, p_isnB, p_isN, p_isnN, y_len, y_lenT, y_lenL, y_lenPs, y_lenG, y_int, y_intB, y_abs, y_min2, y_max2, y_gcd, y_list, y_listL, y_listPs, y_all, wipeE, frE, bib, Option.bind_some, Option.map_some, List.getD_cons_zero, List.getD_cons_succ, List.set_cons_zero, List.set_cons_succ, List.map_cons, List.map_nil, List.length_cons, List.length_nil, List.replicate, List.cons_append, List.nil_append, if_true, if_false, Bool.false_eq_true, Nat.reduceSub, Nat.reduceAdd, Nat.reduceLeDiff, if_le (show 0 < 1000000 by decide), if_le (show 4 < 1000000 by decide), if_le (show 1 < 1000000 by decide), rng_ok (show n < 1000000 by omega), Int.toNat_natCast, rng_map]
  have lp2 := fun f ht => show forGo f [3, 4, 5, 6] ((List.range n).map eN) [.val (.int n), .val (ePs ps), .val (.list [.list [.list [], .list [], .list [], .list []]]), .no, .no, .no, .no] = _ from (lp f ht).1
  rw [lp2 _ ?_]
  · have ro := rowsN_ok n
    have hp5 : 5 ^ n ≤ 5 ^ 5 := Nat.pow_le_pow_right (by decide) hn
    have hl : (rowsN n).length ≤ 3125 := Nat.le_trans ro.1 hp5
    have fl := List.length_filter_le (lafM n ps) (rowsN n)
    rw [show (List.range n).foldl rnext [[[], [], [], []]] = rowsN n from rfl]
    simp (implicitDefEqProofs := false) only [turnE_nx, turnE_cnt, rd_0, rd_o, rd_of, rd_s, gO_0, gO_s, gO2_0, gO2_s, bp_nm, bp_tp, bps_nil, bps_cons, bp_eP, v_var, v_int, v_bool, v_str, v_none, v_glb, v_op, v_ch, v_ch3, v_neg, v_not, v_and, v_or, v_b1, v_ife, v_tup, v_lst, v_idx, v_bi, v_call, v_callB, v_rev, v_cut, v_p0, v_p1, vs_nil, vs_cons, f_0, f_1, i_s, i_r1, i_r2, i_e, i_z, v_lc, v_lc2, v_ssc, v_ssc2, v_sst, v_lset, x_nil, x_cons, t_nx, t_brk, t_cnt, t_ret, x_asgF, x_asgT, x_asgp, x_par, sets_nil, sets_cons, x_app, x_ext, x_exp, x_own2, x_newT, x_ret, x_ite, x_for, x_whl, x_frz, fz_o, fz_o2, fz_v, e_rF, e_rT, e_nF, sq_l, sq_t, sx_l, sx_t, sl_l, sq_L, sx_L, sl_L, sq_Ps, sx_Ps, sl_Ps, sq_G, sx_G, sl_G, sx_P, ai, ab, at0, at1, p_add, p_sub, p_lt, p_le, p_gt, p_ge, p_isB, p_isnB, p_isN, p_isnN, y_len, y_lenT, y_lenL, y_lenPs, y_lenG, y_int, y_intB, y_abs, y_min2, y_max2, y_gcd, y_list, y_listL, y_listPs, y_all, wipeE, frE, bib, Option.bind_some, Option.map_some, List.getD_cons_zero, List.getD_cons_succ, List.set_cons_zero, List.set_cons_succ, List.map_cons, List.map_nil, List.length_cons, List.length_nil, List.replicate, List.cons_append, List.nil_append, if_true, if_false, Bool.false_eq_true, Nat.reduceSub, Nat.reduceAdd, Nat.reduceLeDiff, h_filt N C _ n ps (rowsN n) (fun g hg => r1 g (ro.2 g hg)), List.length_map, if_lt (show ((rowsN n).filter (lafM n ps)).length < 1000000 by omega), if_le (show 0 < 1000000 by decide), o_neGG0, emp_any]
    rfl
  · intro i rows v hv hi hI
    refine ⟨?_, rnext_ok hI⟩
    have hp5 : 5 ^ i ≤ 5 ^ 4 := Nat.pow_le_pow_right (by decide) (by omega)
    have hl : rows.length ≤ 625 := Nat.le_trans hI.1 hp5
    have fo := rfold_ok (v := v) rows [] hI.2 (fun r hr => by cases hr)
    have lm := fun f ht => forGo_n f [5, 6] eG (fun more : List (List (List Nat)) => [.val (.int n), .val (ePs ps), .val (.list (rows.map eG)), .val (eN v), .own (more.map eG), .no, .no]) (rmid v) (fun j more => more.length ≤ 4 * j) rows.length rows [] 0 (by decide) (by omega) ht
    have lm2 := fun f ht => show forGo f [5, 6] (rows.map eG) [.val (.int n), .val (ePs ps), .val (.list (rows.map eG)), .val (eN v), .own [], .no, .no] = _ from (lm f ht).1
    simp (implicitDefEqProofs := false) only [turnE_nx, turnE_cnt, rd_0, rd_o, rd_of, rd_s, gO_0, gO_s, gO2_0, gO2_s, bp_nm, bp_tp, bps_nil, bps_cons, bp_eP, v_var, v_int, v_bool, v_str, v_none, v_glb, v_op, v_ch, v_ch3, v_neg, v_not, v_and, v_or, v_b1, v_ife, v_tup, v_lst, v_idx, v_bi, v_call, v_callB, v_rev, v_cut, v_p0, v_p1, vs_nil, vs_cons, f_0, f_1, i_s, i_r1, i_r2, i_e, i_z, v_lc, v_lc2, v_ssc, v_ssc2, v_sst, v_lset, x_nil, x_cons, t_nx, t_brk, t_cnt, t_ret, x_asgF, x_asgT, x_asgp, x_par, sets_nil, sets_cons, x_app, x_ext, x_exp, x_own2, x_newT, x_ret, x_ite, x_for, x_whl, x_frz, fz_o, fz_o2, fz_v, e_rF, e_rT, e_nF, sq_l, sq_t, sx_l, sx_t, sl_l, sq_L, sx_L, sl_L, sq_Ps, sx_Ps, sl_Ps, sq_G, sx_G, sl_G, sx_P, ai, ab, at0, at1, p_add, p_sub, p_lt, p_le, p_gt, p_ge, p_isB, p_isnB, p_isN, p_isnN, y_len, y_lenT, y_lenL, y_lenPs, y_lenG, y_int, y_intB, y_abs, y_min2, y_max2, y_gcd, y_list, y_listL, y_listPs, y_all, wipeE, frE, bib, Option.bind_some, Option.map_some, List.getD_cons_zero, List.getD_cons_succ, List.set_cons_zero, List.set_cons_succ, List.map_cons, List.map_nil, List.length_cons, List.length_nil, List.replicate, List.cons_append, List.nil_append, if_true, if_false, Bool.false_eq_true, Nat.reduceSub, Nat.reduceAdd, Nat.reduceLeDiff]
    rw [lm2 _ ?_]
    · have f2 := fo.2
      simp only [List.length_nil] at f2
      simp (implicitDefEqProofs := false) only [turnE_nx, turnE_cnt, rd_0, rd_o, rd_of, rd_s, gO_0, gO_s, gO2_0, gO2_s, bp_nm, bp_tp, bps_nil, bps_cons, bp_eP, v_var, v_int, v_bool, v_str, v_none, v_glb, v_op, v_ch, v_ch3, v_neg, v_not, v_and, v_or, v_b1, v_ife, v_tup, v_lst, v_idx, v_bi, v_call, v_callB, v_rev, v_cut, v_p0, v_p1, vs_nil, vs_cons, f_0, f_1, i_s, i_r1, i_r2, i_e, i_z, v_lc, v_lc2, v_ssc, v_ssc2, v_sst, v_lset, x_nil, x_cons, t_nx, t_brk, t_cnt, t_ret, x_asgF, x_asgT, x_asgp, x_par, sets_nil, sets_cons, x_app, x_ext, x_exp, x_own2, x_newT, x_ret, x_ite, x_for, x_whl, x_frz, fz_o, fz_o2, fz_v, e_rF, e_rT, e_nF, sq_l, sq_t, sx_l, sx_t, sl_l, sq_L, sx_L, sl_L, sq_Ps, sx_Ps, sl_Ps, sq_G, sx_G, sl_G, sx_P, ai, ab, at0, at1, p_add, p_sub, p_lt, p_le, p_gt, p_ge, p_isB, p_isnB, p_isN, p_isnN, y_len, y_lenT, y_lenL, y_lenPs, y_lenG, y_int, y_intB, y_abs, y_min2, y_max2, y_gcd, y_list, y_listL, y_listPs, y_all, wipeE, frE, bib, Option.bind_some, Option.map_some, List.getD_cons_zero, List.getD_cons_succ, List.set_cons_zero, List.set_cons_succ, List.map_cons, List.map_nil, List.length_cons, List.length_nil, List.replicate, List.cons_append, List.nil_append, if_true, if_false, Bool.false_eq_true, Nat.reduceSub, Nat.reduceAdd, Nat.reduceLeDiff, o_catGG, if_le (show rows.length + (rows.foldl (rmid v) []).length < 1000000 by omega)]
      rfl
    · intro j more row hrow hj hm
      have hm' : more.length ≤ 2500 := by
        have : more.length ≤ 4 * j := hm
        omega
      have ml := rmid_len v more row
      refine ⟨?_, by show _ ≤ _; have : more.length ≤ 4 * j := hm; omega⟩
      have hG := hI.2 row hrow
      have r4 : rngOk 4 = true := rng_ok (n := 4) (by decide)
      have t4 : (4 : Int).toNat = 4 := rfl
      have ls := fun f ht => forGo_n f [6] eN (fun more : List (List (List Nat)) => [.val (.int n), .val (ePs ps), .val (.list (rows.map eG)), .val (eN v), .own (more.map eG), .val (eG row), .no]) (rst v row) (fun q m2 => m2.length ≤ more.length + q) 4 (List.range 4) more 0 (by show _ ≤ _; omega) (by decide) ht
      simp (implicitDefEqProofs := false) only [turnE_nx, turnE_cnt, rd_0, rd_o, rd_of, rd_s, gO_0, gO_s, gO2_0, gO2_s, bp_nm, bp_tp, bps_nil, bps_cons, bp_eP, v_var, v_int, v_bool, v_str, v_none, v_glb, v_op, v_ch, v_ch3, v_neg, v_not, v_and, v_or, v_b1, v_ife, v_tup, v_lst, v_idx, v_bi, v_call, v_callB, v_rev, v_cut, v_p0, v_p1, vs_nil, vs_cons, f_0, f_1, i_s, i_r1, i_r2, i_e, i_z, v_lc, v_lc2, v_ssc, v_ssc2, v_sst, v_lset, x_nil, x_cons, t_nx, t_brk, t_cnt, t_ret, x_asgF, x_asgT, x_asgp, x_par, sets_nil, sets_cons, x_app, x_ext, x_exp, x_own2, x_newT, x_ret, x_ite, x_for, x_whl, x_frz, fz_o, fz_o2, fz_v, e_rF, e_rT, e_nF, sq_l, sq_t, sx_l, sx_t, sl_l, sq_L, sx_L, sl_L, sq_Ps, sx_Ps, sl_Ps, sq_G, sx_G, sl_G, sx_P, ai, ab, at0, at1, p_add, p_sub, p_lt, p_le, p_gt, p_ge, p_isB, p_isnB, p_isN, p_isnN, y_len, y_lenT, y_lenL, y_lenPs, y_lenG, y_int, y_intB, y_abs, y_min2, y_max2, y_gcd, y_list, y_listL, y_listPs, y_all, wipeE, frE, bib, Option.bind_some, Option.map_some, List.getD_cons_zero, List.getD_cons_succ, List.set_cons_zero, List.set_cons_succ, List.map_cons, List.map_nil, List.length_cons, List.length_nil, List.replicate, List.cons_append, List.nil_append, if_true, if_false, Bool.false_eq_true, Nat.reduceSub, Nat.reduceAdd, Nat.reduceLeDiff, r4, t4, rng_map]
      rw [(ls _ ?_).1]
      · simp (implicitDefEqProofs := false) only [turnE_nx, turnE_cnt, rd_0, rd_o, rd_of, rd_s, gO_0, gO_s, gO2_0, gO2_s, bp_nm, bp_tp, bps_nil, bps_cons, bp_eP, v_var, v_int, v_bool, v_str, v_none, v_glb, v_op, v_ch, v_ch3, v_neg, v_not, v_and, v_or, v_b1, v_ife, v_tup, v_lst, v_idx, v_bi, v_call, v_callB, v_rev, v_cut, v_p0, v_p1, vs_nil, vs_cons, f_0, f_1, i_s, i_r1, i_r2, i_e, i_z, v_lc, v_lc2, v_ssc, v_ssc2, v_sst, v_lset, x_nil, x_cons, t_nx, t_brk, t_cnt, t_ret, x_asgF, x_asgT, x_asgp, x_par, sets_nil, sets_cons, x_app, x_ext, x_exp, x_own2, x_newT, x_ret, x_ite, x_for, x_whl, x_frz, fz_o, fz_o2, fz_v, e_rF, e_rT, e_nF, sq_l, sq_t, sx_l, sx_t, sl_l, sq_L, sx_L, sl_L, sq_Ps, sx_Ps, sl_Ps, sq_G, sx_G, sl_G, sx_P, ai, ab, at0, at1, p_add, p_sub, p_lt, p_le, p_gt, p_ge, p_isB, p_isnB, p_isN, p_isnN, y_len, y_lenT, y_lenL, y_lenPs, y_lenG, y_int, y_intB, y_abs, y_min2, y_max2, y_gcd, y_list, y_listL, y_listPs, y_all, wipeE, frE, bib, Option.bind_some, Option.map_some, List.getD_cons_zero, List.getD_cons_succ, List.set_cons_zero, List.set_cons_succ, List.map_cons, List.map_nil, List.length_cons, List.length_nil, List.replicate, List.cons_append, List.nil_append, if_true, if_false, Bool.false_eq_true, Nat.reduceSub, Nat.reduceAdd, Nat.reduceLeDiff]
        rfl
      · intro q m2 x hx hq hm2
        have hm2' : m2.length ≤ more.length + q := hm2
        have rl := rst_len v row m2 x
        refine ⟨?_, by show _ ≤ _; omega⟩
        have t := tn v row m2 x (List.mem_range.mp hx) hG.1 (fun g hg => by have := flen_mem hg; have := hG.2; omega) (by omega) (.val (.list (rows.map eG)))
        simp (implicitDefEqProofs := false) only [turnE_nx, turnE_cnt, rd_0, rd_o, rd_of, rd_s, gO_0, gO_s, gO2_0, gO2_s, bp_nm, bp_tp, bps_nil, bps_cons, bp_eP, v_var, v_int, v_bool, v_str, v_none, v_glb, v_op, v_ch, v_ch3, v_neg, v_not, v_and, v_or, v_b1, v_ife, v_tup, v_lst, v_idx, v_bi, v_call, v_callB, v_rev, v_cut, v_p0, v_p1, vs_nil, vs_cons, f_0, f_1, i_s, i_r1, i_r2, i_e, i_z, v_lc, v_lc2, v_ssc, v_ssc2, v_sst, v_lset, x_nil, x_cons, t_nx, t_brk, t_cnt, t_ret, x_asgF, x_asgT, x_asgp, x_par, sets_nil, sets_cons, x_app, x_ext, x_exp, x_own2, x_newT, x_ret, x_ite, x_for, x_whl, x_frz, fz_o, fz_o2, fz_v, e_rF, e_rT, e_nF, sq_l, sq_t, sx_l, sx_t, sl_l, sq_L, sx_L, sl_L, sq_Ps, sx_Ps, sl_Ps, sq_G, sx_G, sl_G, sx_P, ai, ab, at0, at1, p_add, p_sub, p_lt, p_le, p_gt, p_ge, p_isB, p_isnB, p_isN, p_isnN, y_len, y_lenT, y_lenL, y_lenPs, y_lenG, y_int, y_intB, y_abs, y_min2, y_max2, y_gcd, y_list, y_listL, y_listPs, y_all, wipeE, frE, bib, Option.bind_some, Option.map_some, List.getD_cons_zero, List.getD_cons_succ, List.set_cons_zero, List.set_cons_succ, List.map_cons, List.map_nil, List.length_cons, List.length_nil, List.replicate, List.cons_append, List.nil_append, if_true, if_false, Bool.false_eq_true, Nat.reduceSub, Nat.reduceAdd, Nat.reduceLeDiff] at t ⊢
        exact t
end K19

set_option Elab.async false
set_option linter.all false
set_option maxRecDepth 100000
set_option maxHeartbeats 4000000
namespace K19
open PySem Pv
/-! ### _law_mix -/
def cellN (ds : List Nat) (k : Nat) : Nat := if 0 < ds.length then ds.getD (k % ds.length) 0 else 0
def mixN (ds : List Nat) (k many : Nat) : Nat := if k < ds.length then cellN ds k % many else ((cellN ds k * 7919 + k * 104729) / 3) % many
theorem mix_lt (ds : List Nat) (k : Nat) {many : Nat} (h : 0 < many) : mixN ds k many < many := by
  unfold mixN
  split <;> exact Nat.mod_lt _ h
theorem cell_lt {ds : List Nat} (h : ∀ d ∈ ds, d < 65536) (k : Nat) : cellN ds k < 65536 := by
  unfold cellN
  split
  · rename_i hl
    rw [List.getD_eq_getElem?_getD, List.getElem?_eq_getElem (Nat.mod_lt k hl)]
    exact h _ (List.getElem_mem _)
  · decide
theorem r_law_mix (N k : Nat) (ds : List Nat) (j many : Nat) (hd : ∀ d ∈ ds, d < 65536) (hl : ds.length < 100000) (hj : j < 100000) (h0 : 0 < many) (h1 : many < 100000) : cal (tabOf fds) N (k + 1) "_law_mix" [eL ds, .int j, .int many] = some (.int (mixN ds j many)) := by
  rw [c_law_mix _ _ _ rfl, b_law_mix]
  have cl := cell_lt hd j
  have fin : ∀ c : Nat, c = cellN ds j → ((if decide ((j : Int) < (ds.length : Int)) = true then op2 .mod (.int c) (.int many) else ((op2 .mul (.int c) (.int 7919)).bind fun a => (op2 .mul (.int j) (.int 104729)).bind fun b => (op2 .add a b).bind fun s => (op2 .fdiv s (.int 3)).bind fun q => op2 .mod q (.int many))) = some (.int (mixN ds j many))) := by
    intro c hc
    subst hc
    unfold mixN
    by_cases hjl : j < ds.length
    · rw [if_pos hjl, if_pos (decide_eq_true (by omega)), p_mod (show (0 : Int) < (many : Int) by omega)]
      rfl
    · rw [if_neg hjl, if_neg (by simpa using hjl), p_mul (by omega) (by decide), p_mul (by omega) (by decide)]
      simp only [Option.bind_some, p_add]
      rw [p_fdiv (by decide) (by decide), Option.bind_some, p_mod (show (0 : Int) < (many : Int) by omega)]
      rfl
  by_cases h : 0 < ds.length
  · have ha : L2.atI (ds.map eN) ((j : Int) % (ds.length : Int)) = some (.int (cellN ds j : Nat)) := by
      rw [show ((j : Int) % (ds.length : Int)) = ((j % ds.length : Nat) : Int) from rfl]
      refine at_map eN ds _ ?_
      have hm := Nat.mod_lt j h
      unfold cellN
      rw [if_pos h, List.getD_eq_getElem?_getD, List.getElem?_eq_getElem hm]
      rfl
    have f := fin _ rfl
    simp (implicitDefEqProofs := false) only [turnE_nx, turnE_cnt, rd_0, rd_o, rd_of, rd_s, gO_0, gO_s, gO2_0, gO2_s, bp_nm, bp_tp, bps_nil, bps_cons, bp_eP, v_var, v_int, v_bool, v_str, v_none, v_glb, v_op, v_ch, v_ch3, v_neg, v_not, v_and, v_or, v_b1, v_ife, v_tup, v_lst, v_idx, v_bi, v_call, v_callB, v_rev, v_cut, v_p0, v_p1, vs_nil, vs_cons, f_0, f_1, i_s, i_r1, i_r2, i_e, i_z, v_lc, v_lc2, v_ssc, v_ssc2, v_sst, v_lset, x_nil, x_cons, t_nx, t_brk, t_cnt, t_ret, x_asgF, x_asgT, x_asgp, x_par, sets_nil, sets_cons, x_app, x_ext, x_exp, x_own2, x_newT, x_ret, x_ite, x_for, x_whl, x_frz, fz_o, fz_o2, fz_v, e_rF, e_rT, e_nF, sq_l, sq_t, sx_l, sx_t, sl_l, sq_L, sx_L, sl_L, sq_Ps, sx_Ps, sl_Ps, sq_G, sx_G, sl_G, sx_P, ai, ab, at0, at1, p_add, p_sub, p_lt, p_le, p_gt, p_ge, p_isB, p_isnB, p_isN, p_isnN, y_len, y_lenT, y_lenL, y_lenPs, y_lenG, y_int, y_intB, y_abs, y_min2, y_max2, y_gcd, y_list, y_listL, y_listPs, y_all, wipeE, frE, bib, Option.bind_some, Option.map_some, List.getD_cons_zero, List.getD_cons_succ, List.set_cons_zero, List.set_cons_succ, List.map_cons, List.map_nil, List.length_cons, List.length_nil, List.replicate, List.cons_append, List.nil_append, if_true, if_false, Bool.false_eq_true, Nat.reduceSub, Nat.reduceAdd, Nat.reduceLeDiff, decide_eq_true (show (0 : Int) < (ds.length : Int) by omega), p_mod (show (0 : Int) < (ds.length : Int) by omega), ha]
    by_cases hjl : (j : Int) < (ds.length : Int)
    · rw [decide_eq_true hjl, if_pos rfl] at f
      simp (implicitDefEqProofs := false) only [turnE_nx, turnE_cnt, rd_0, rd_o, rd_of, rd_s, gO_0, gO_s, gO2_0, gO2_s, bp_nm, bp_tp, bps_nil, bps_cons, bp_eP, v_var, v_int, v_bool, v_str, v_none, v_glb, v_op, v_ch, v_ch3, v_neg, v_not, v_and, v_or, v_b1, v_ife, v_tup, v_lst, v_idx, v_bi, v_call, v_callB, v_rev, v_cut, v_p0, v_p1, vs_nil, vs_cons, f_0, f_1, i_s, i_r1, i_r2, i_e, i_z, v_lc, v_lc2, v_ssc, v_ssc2, v_sst, v_lset, x_nil, x_cons, t_nx, t_brk, t_cnt, t_ret, x_asgF, x_asgT, x_asgp, x_par, sets_nil, sets_cons, x_app, x_ext, x_exp, x_own2, x_newT, x_ret, x_ite, x_for, x_whl, x_frz, fz_o, fz_o2, fz_v, e_rF, e_rT, e_nF, sq_l, sq_t, sx_l, sx_t, sl_l, sq_L, sx_L, sl_L, sq_Ps, sx_Ps, sl_Ps, sq_G, sx_G, sl_G, sx_P, ai, ab, at0, at1, p_add, p_sub, p_lt, p_le, p_gt, p_ge, p_isB, p_isnB, p_isN, p_isnN, y_len, y_lenT, y_lenL, y_lenPs, y_lenG, y_int, y_intB, y_abs, y_min2, y_max2, y_gcd, y_list, y_listL, y_listPs, y_all, wipeE, frE, bib, Option.bind_some, Option.map_some, List.getD_cons_zero, List.getD_cons_succ, List.set_cons_zero, List.set_cons_succ, List.map_cons, List.map_nil, List.length_cons, List.length_nil, List.replicate, List.cons_append, List.nil_append, if_true, if_false, Bool.false_eq_true, Nat.reduceSub, Nat.reduceAdd, Nat.reduceLeDiff, decide_eq_true hjl, f]
    · rw [decide_eq_false hjl, if_neg (by decide)] at f
      rw [p_mul (by omega) (by decide), p_mul (by omega) (by decide)] at f
      simp (implicitDefEqProofs := false) only [turnE_nx, turnE_cnt, rd_0, rd_o, rd_of, rd_s, gO_0, gO_s, gO2_0, gO2_s, bp_nm, bp_tp, bps_nil, bps_cons, bp_eP, v_var, v_int, v_bool, v_str, v_none, v_glb, v_op, v_ch, v_ch3, v_neg, v_not, v_and, v_or, v_b1, v_ife, v_tup, v_lst, v_idx, v_bi, v_call, v_callB, v_rev, v_cut, v_p0, v_p1, vs_nil, vs_cons, f_0, f_1, i_s, i_r1, i_r2, i_e, i_z, v_lc, v_lc2, v_ssc, v_ssc2, v_sst, v_lset, x_nil, x_cons, t_nx, t_brk, t_cnt, t_ret, x_asgF, x_asgT, x_asgp, x_par, sets_nil, sets_cons, x_app, x_ext, x_exp, x_own2, x_newT, x_ret, x_ite, x_for, x_whl, x_frz, fz_o, fz_o2, fz_v, e_rF, e_rT, e_nF, sq_l, sq_t, sx_l, sx_t, sl_l, sq_L, sx_L, sl_L, sq_Ps, sx_Ps, sl_Ps, sq_G, sx_G, sl_G, sx_P, ai, ab, at0, at1, p_add, p_sub, p_lt, p_le, p_gt, p_ge, p_isB, p_isnB, p_isN, p_isnN, y_len, y_lenT, y_lenL, y_lenPs, y_lenG, y_int, y_intB, y_abs, y_min2, y_max2, y_gcd, y_list, y_listL, y_listPs, y_all, wipeE, frE, bib, Option.bind_some, Option.map_some, List.getD_cons_zero, List.getD_cons_succ, List.set_cons_zero, List.set_cons_succ, List.map_cons, List.map_nil, List.length_cons, List.length_nil, List.replicate, List.cons_append, List.nil_append, if_true, if_false, Bool.false_eq_true, Nat.reduceSub, Nat.reduceAdd, Nat.reduceLeDiff, decide_eq_false hjl]
      rw [p_mul (by omega) (by decide), p_mul (by omega) (by decide)]
      simp (implicitDefEqProofs := false) only [turnE_nx, turnE_cnt, rd_0, rd_o, rd_of, rd_s, gO_0, gO_s, gO2_0, gO2_s, bp_nm, bp_tp, bps_nil, bps_cons, bp_eP, v_var, v_int, v_bool, v_str, v_none, v_glb, v_op, v_ch, v_ch3, v_neg, v_not, v_and, v_or, v_b1, v_ife, v_tup, v_lst, v_idx, v_bi, v_call, v_callB, v_rev, v_cut, v_p0, v_p1, vs_nil, vs_cons, f_0, f_1, i_s, i_r1, i_r2, i_e, i_z, v_lc, v_lc2, v_ssc, v_ssc2, v_sst, v_lset, x_nil, x_cons, t_nx, t_brk, t_cnt, t_ret, x_asgF, x_asgT, x_asgp, x_par, sets_nil, sets_cons, x_app, x_ext, x_exp, x_own2, x_newT, x_ret, x_ite, x_for, x_whl, x_frz, fz_o, fz_o2, fz_v, e_rF, e_rT, e_nF, sq_l, sq_t, sx_l, sx_t, sl_l, sq_L, sx_L, sl_L, sq_Ps, sx_Ps, sl_Ps, sq_G, sx_G, sl_G, sx_P, ai, ab, at0, at1, p_add, p_sub, p_lt, p_le, p_gt, p_ge, p_isB, p_isnB, p_isN, p_isnN, y_len, y_lenT, y_lenL, y_lenPs, y_lenG, y_int, y_intB, y_abs, y_min2, y_max2, y_gcd, y_list, y_listL, y_listPs, y_all, wipeE, frE, bib, Option.bind_some, Option.map_some, List.getD_cons_zero, List.getD_cons_succ, List.set_cons_zero, List.set_cons_succ, List.map_cons, List.map_nil, List.length_cons, List.length_nil, List.replicate, List.cons_append, List.nil_append, if_true, if_false, Bool.false_eq_true, Nat.reduceSub, Nat.reduceAdd, Nat.reduceLeDiff]
      simp only [Option.bind_some, p_add] at f
      rw [p_fdiv (by decide) (by decide)] at f ⊢
      simp (implicitDefEqProofs := false) only [turnE_nx, turnE_cnt, rd_0, rd_o, rd_of, rd_s, gO_0, gO_s, gO2_0, gO2_s, bp_nm, bp_tp, bps_nil, bps_cons, bp_eP, v_var, v_int, v_bool, v_str, v_none, v_glb, v_op, v_ch, v_ch3, v_neg, v_not, v_and, v_or, v_b1, v_ife, v_tup, v_lst, v_idx, v_bi, v_call, v_callB, v_rev, v_cut, v_p0, v_p1, vs_nil, vs_cons, f_0, f_1, i_s, i_r1, i_r2, i_e, i_z, v_lc, v_lc2, v_ssc, v_ssc2, v_sst, v_lset, x_nil, x_cons, t_nx, t_brk, t_cnt, t_ret, x_asgF, x_asgT, x_asgp, x_par, sets_nil, sets_cons, x_app, x_ext, x_exp, x_own2, x_newT, x_ret, x_ite, x_for, x_whl, x_frz, fz_o, fz_o2, fz_v, e_rF, e_rT, e_nF, sq_l, sq_t, sx_l, sx_t, sl_l, sq_L, sx_L, sl_L, sq_Ps, sx_Ps, sl_Ps, sq_G, sx_G, sl_G, sx_P, ai, ab, at0, at1, p_add, p_sub, p_lt, p_le, p_gt, p_ge, p_isB, p_isnB, p_isN, p_isnN, y_len, y_lenT, y_lenL, y_lenPs, y_lenG, y_int, y_intB, y_abs, y_min2, y_max2, y_gcd, y_list, y_listL, y_listPs, y_all, wipeE, frE, bib, Option.bind_some, Option.map_some, List.getD_cons_zero, List.getD_cons_succ, List.set_cons_zero, List.set_cons_succ, List.map_cons, List.map_nil, List.length_cons, List.length_nil, List.replicate, List.cons_append, List.nil_append, if_true, if_false, Bool.false_eq_true, Nat.reduceSub, Nat.reduceAdd, Nat.reduceLeDiff]
      rw [Option.bind_some] at f
      rw [f]
      simp (implicitDefEqProofs := false) only [turnE_nx, turnE_cnt, rd_0, rd_o, rd_of, rd_s, gO_0, gO_s, gO2_0, gO2_s, bp_nm, bp_tp, bps_nil, bps_cons, bp_eP, v_var, v_int, v_bool, v_str, v_none, v_glb, v_op, v_ch, v_ch3, v_neg, v_not, v_and, v_or, v_b1, v_ife, v_tup, v_lst, v_idx, v_bi, v_call, v_callB, v_rev, v_cut, v_p0, v_p1, vs_nil, vs_cons, f_0, f_1, i_s, i_r1, i_r2, i_e, i_z, v_lc, v_lc2, v_ssc, v_ssc2, v_sst, v_lset, x_nil, x_cons, t_nx, t_brk, t_cnt, t_ret, x_asgF, x_asgT, x_asgp, x_par, sets_nil, sets_cons, x_app, x_ext, x_exp, x_own2, x_newT, x_ret, x_ite, x_for, x_whl, x_frz, fz_o, fz_o2, fz_v, e_rF, e_rT, e_nF, sq_l, sq_t, sx_l, sx_t, sl_l, sq_L, sx_L, sl_L, sq_Ps, sx_Ps, sl_Ps, sq_G, sx_G, sl_G, sx_P, ai, ab, at0, at1, p_add, p_sub, p_lt, p_le, p_gt, p_ge, p_isB, p_isnB, p_isN, p_isnN, y_len, y_lenT, y_lenL, y_lenPs, y_lenG, y_int, y_intB, y_abs, y_min2, y_max2, y_gcd, y_list, y_listL, y_listPs, y_all, wipeE, frE, bib, Option.bind_some, Option.map_some, List.getD_cons_zero, List.getD_cons_succ, List.set_cons_zero, List.set_cons_succ, List.map_cons, List.map_nil, List.length_cons, List.length_nil, List.replicate, List.cons_append, List.nil_append, if_true, if_false, Bool.false_eq_true, Nat.reduceSub, Nat.reduceAdd, Nat.reduceLeDiff]
  · have e : ds.length = 0 := by omega
    have f := fin 0 (by unfold cellN; rw [if_neg h])
    simp (implicitDefEqProofs := false) only [turnE_nx, turnE_cnt, rd_0, rd_o, rd_of, rd_s, gO_0, gO_s, gO2_0, gO2_s, bp_nm, bp_tp, bps_nil, bps_cons, bp_eP, v_var, v_int, v_bool, v_str, v_none, v_glb, v_op, v_ch, v_ch3, v_neg, v_not, v_and, v_or, v_b1, v_ife, v_tup, v_lst, v_idx, v_bi, v_call, v_callB, v_rev, v_cut, v_p0, v_p1, vs_nil, vs_cons, f_0, f_1, i_s, i_r1, i_r2, i_e, i_z, v_lc, v_lc2, v_ssc, v_ssc2, v_sst, v_lset, x_nil, x_cons, t_nx, t_brk, t_cnt, t_ret, x_asgF, x_asgT, x_asgp, x_par, sets_nil, sets_cons, x_app, x_ext, x_exp, x_own2, x_newT, x_ret, x_ite, x_for, x_whl, x_frz, fz_o, fz_o2, fz_v, e_rF, e_rT, e_nF, sq_l, sq_t, sx_l, sx_t, sl_l, sq_L, sx_L, sl_L, sq_Ps, sx_Ps, sl_Ps, sq_G, sx_G, sl_G, sx_P, ai, ab, at0, at1, p_add, p_sub, p_lt, p_le, p_gt, p_ge, p_isB, p_isnB, p_isN, p_isnN, y_len, y_lenT, y_lenL, y_lenPs, y_lenG, y_int, y_intB, y_abs, y_min2, y_max2, y_gcd, y_list, y_listL, y_listPs, y_all, wipeE, frE, bib, Option.bind_some, Option.map_some, List.getD_cons_zero, List.getD_cons_succ, List.set_cons_zero, List.set_cons_succ, List.map_cons, List.map_nil, List.length_cons, List.length_nil, List.replicate, List.cons_append, List.nil_append, if_true, if_false, Bool.false_eq_true, Nat.reduceSub, Nat.reduceAdd, Nat.reduceLeDiff, decide_eq_false (show ¬ (0 : Int) < (ds.length : Int) by omega)]
    have hjl : ¬ (j : Int) < (ds.length : Int) := by omega
    rw [decide_eq_false hjl, if_neg (by decide)] at f
    rw [p_mul (by omega) (by decide), p_mul (by omega) (by decide)] at f
    simp (implicitDefEqProofs := false) only [turnE_nx, turnE_cnt, rd_0, rd_o, rd_of, rd_s, gO_0, gO_s, gO2_0, gO2_s, bp_nm, bp_tp, bps_nil, bps_cons, bp_eP, v_var, v_int, v_bool, v_str, v_none, v_glb, v_op, v_ch, v_ch3, v_neg, v_not, v_and, v_or, v_b1, v_ife, v_tup, v_lst, v_idx, v_bi, v_call, v_callB, v_rev, v_cut, v_p0, v_p1, vs_nil, vs_cons, f_0, f_1, i_s, i_r1, i_r2, i_e, i_z, v_lc, v_lc2, v_ssc, v_ssc2, v_sst, v_lset, x_nil, x_cons, t_nx, t_brk, t_cnt, t_ret, x_asgF, x_asgT, x_asgp, x_par, sets_nil, sets_cons, x_app, x_ext, x_exp, x_own2, x_newT, x_ret, x_ite, x_for, x_whl, x_frz, fz_o, fz_o2, fz_v, e_rF, e_rT, e_nF, sq_l, sq_t, sx_l, sx_t, sl_l, sq_L, sx_L, sl_L, sq_Ps, sx_Ps, sl_Ps, sq_G, sx_G, sl_G, sx_P, ai, ab, at0, at1, p_add, p_sub, p_lt, p_le, p_gt, p_ge, p_isB, p_isnB, p_isN, p_isnN, y_len, y_lenT, y_lenL, y_lenPs, y_lenG, y_int, y_intB, y_abs, y_min2, y_max2, y_gcd, y_list, y_listL, y_listPs, y_all, wipeE, frE, bib, Option.bind_some, Option.map_some, List.getD_cons_zero, List.getD_cons_succ, List.set_cons_zero, List.set_cons_succ, List.map_cons, List.map_nil, List.length_cons, List.length_nil, List.replicate, List.cons_append, List.nil_append, if_true, if_false, Bool.false_eq_true, Nat.reduceSub, Nat.reduceAdd, Nat.reduceLeDiff, decide_eq_false hjl]
    rw [p_mul (by decide) (by decide), p_mul (by omega) (by decide)]
    simp (implicitDefEqProofs := false) only [turnE_nx, turnE_cnt, rd_0, rd_o, rd_of, rd_s, gO_0, gO_s, gO2_0, gO2_s, bp_nm, bp_tp, bps_nil, bps_cons, bp_eP, v_var, v_int, v_bool, v_str, v_none, v_glb, v_op, v_ch, v_ch3, v_neg, v_not, v_and, v_or, v_b1, v_ife, v_tup, v_lst, v_idx, v_bi, v_call, v_callB, v_rev, v_cut, v_p0, v_p1, vs_nil, vs_cons, f_0, f_1, i_s, i_r1, i_r2, i_e, i_z, v_lc, v_lc2, v_ssc, v_ssc2, v_sst, v_lset, x_nil, x_cons, t_nx, t_brk, t_cnt, t_ret, x_asgF, x_asgT, x_asgp, x_par, sets_nil, sets_cons, x_app, x_ext, x_exp, x_own2, x_newT, x_ret, x_ite, x_for, x_whl, x_frz, fz_o, fz_o2, fz_v, e_rF, e_rT, e_nF, sq_l, sq_t, sx_l, sx_t, sl_l, sq_L, sx_L, sl_L, sq_Ps, sx_Ps, sl_Ps, sq_G, sx_G, sl_G, sx_P, ai, ab, at0, at1, p_add, p_sub, p_lt, p_le, p_gt, p_ge, p_isB, p_isnB, p_isN, p_isnN, y_len, y_lenT, y_lenL, y_lenPs, y_lenG, y_int, y_intB, y_abs, y_min2, y_max2, y_gcd, y_list, y_listL, y_listPs, y_all, wipeE, frE, bib, Option.bind_some, Option.map_some, List.getD_cons_zero, List.getD_cons_succ, List.set_cons_zero, List.set_cons_succ, List.map_cons, List.map_nil, List.length_cons, List.length_nil, List.replicate, List.cons_append, List.nil_append, if_true, if_false, Bool.false_eq_true, Nat.reduceSub, Nat.reduceAdd, Nat.reduceLeDiff]
    simp only [Option.bind_some, p_add] at f
    rw [p_fdiv (by decide) (by decide)] at f ⊢
    simp (implicitDefEqProofs := false) only [turnE_nx, turnE_cnt, rd_0, rd_o, rd_of, rd_s, gO_0, gO_s, gO2_0, gO2_s, bp_nm, bp_tp, bps_nil, bps_cons, bp_eP, v_var, v_int, v_bool, v_str, v_none, v_glb, v_op, v_ch, v_ch3, v_neg, v_not, v_and, v_or, v_b1, v_ife, v_tup, v_lst, v_idx, v_bi, v_call, v_callB, v_rev, v_cut, v_p0, v_p1, vs_nil, vs_cons, f_0, f_1, i_s, i_r1, i_r2, i_e, i_z, v_lc, v_lc2, v_ssc, v_ssc2, v_sst, v_lset, x_nil, x_cons, t_nx, t_brk, t_cnt, t_ret, x_asgF, x_asgT, x_asgp, x_par, sets_nil, sets_cons, x_app, x_ext, x_exp, x_own2, x_newT, x_ret, x_ite, x_for, x_whl, x_frz, fz_o, fz_o2, fz_v, e_rF, e_rT, e_nF, sq_l, sq_t, sx_l, sx_t, sl_l, sq_L, sx_L, sl_L, sq_Ps, sx_Ps, sl_Ps, sq_G, sx_G, sl_G, sx_P, ai, ab, at0, at1, p_add, p_sub, p_lt, p_le, p_gt, p_ge, p_isB, p_isnB, p_isN, p_isnN, y_len, y_lenT, y_lenL, y_lenPs, y_lenG, y_int, y_intB, y_abs, y_min2, y_max2, y_gcd, y_list, y_listL, y_listPs, y_all, wipeE, frE, bib, Option.bind_some, Option.map_some, List.getD_cons_zero, List.getD_cons_succ, List.set_cons_zero, List.set_cons_succ, List.map_cons, List.map_nil, List.length_cons, List.length_nil, List.replicate, List.cons_append, List.nil_append, if_true, if_false, Bool.false_eq_true, Nat.reduceSub, Nat.reduceAdd, Nat.reduceLeDiff]
    rw [Option.bind_some] at f
    have f2 : op2 .mod (.int ((0 * 7919 + (j : Int) * 104729) / 3)) (.int (many : Int)) = _ := f
    rw [f2]
    simp (implicitDefEqProofs := false) only [turnE_nx, turnE_cnt, rd_0, rd_o, rd_of, rd_s, gO_0, gO_s, gO2_0, gO2_s, bp_nm, bp_tp, bps_nil, bps_cons, bp_eP, v_var, v_int, v_bool, v_str, v_none, v_glb, v_op, v_ch, v_ch3, v_neg, v_not, v_and, v_or, v_b1, v_ife, v_tup, v_lst, v_idx, v_bi, v_call, v_callB, v_rev, v_cut, v_p0, v_p1, vs_nil, vs_cons, f_0, f_1, i_s, i_r1, i_r2, i_e, i_z, v_lc, v_lc2, v_ssc, v_ssc2, v_sst, v_lset, x_nil, x_cons, t_nx, t_brk, t_cnt, t_ret, x_asgF, x_asgT, x_asgp, x_par, sets_nil, sets_cons, x_app, x_ext, x_exp, x_own2, x_newT, x_ret, x_ite, x_for, x_whl, x_frz, fz_o, fz_o2, fz_v, e_rF, e_rT, e_nF, sq_l, sq_t, sx_l, sx_t, sl_l, sq_L, sx_L, sl_L, sq_Ps, sx_Ps, sl_Ps, sq_G, sx_G, sl_G, sx_P, ai, ab, at0, at1, p_add, p_sub, p_lt, p_le, p_gt, p_ge, p_isB, p_isnB, p_isN, p_isnN, y_len, y_lenT, y_lenL, y_lenPs, y_lenG, y_int, y_intB, y_abs, y_min2, y_max2, y_gcd, y_list, y_listL, y_listPs, y_all, wipeE, frE, bib, Option.bind_some, Option.map_some, List.getD_cons_zero, List.getD_cons_succ, List.set_cons_zero, List.set_cons_succ, List.map_cons, List.map_nil, List.length_cons, List.length_nil, List.replicate, List.cons_append, List.nil_append, if_true, if_false, Bool.false_eq_true, Nat.reduceSub, Nat.reduceAdd, Nat.reduceLeDiff]
/-! ### _law_draws -/
def bigst (s : List Nat × Nat) : List Nat × Nat := if 0 < s.2 then (s.1 ++ [s.2 % 65536], s.2 / 65536) else s
def stirA (r k : Nat) : Nat := (r * 48271 + (k + 1) * 69621) % 2147483647
def stirB (r k : Nat) : Nat := (stirA r k * 16807 + 11 * k + 5) % 2147483629
def drst (ns : List Int) (ds : List Nat) (k : Nat) : List Nat := if 10 ^ 18 ≤ (ns.getD k 0).natAbs then ((List.range 60).foldl (fun s _ => bigst s) (ds, (ns.getD k 0).natAbs)).1 else ds ++ [stirB (ns.getD k 0).natAbs k % 65536] ++ [(stirB (ns.getD k 0).natAbs k / 65536) % 32768]
def drawsN (ns : List Int) : List Nat := (List.range (min 63 ns.length)).foldl (drst ns) []
def DI (i : Nat) (ds : List Nat) : Prop := ds.length ≤ 60 * i ∧ ∀ d ∈ ds, d < 65536
def BI (c i : Nat) (s : List Nat × Nat) : Prop := s.1.length ≤ c + i ∧ ∀ d ∈ s.1, d < 65536
theorem big_ok {c i : Nat} {s : List Nat × Nat} (h : BI c i s) : BI c (i + 1) (bigst s) := by
  unfold bigst
  split
  · refine ⟨?_, fun d hd => ?_⟩
    · simp only [List.length_append, List.length_cons, List.length_nil]; have := h.1; omega
    · rcases List.mem_append.mp hd with hd | hd
      · exact h.2 d hd
      · rw [List.mem_singleton.mp hd]; exact Nat.mod_lt _ (by decide)
  · exact ⟨Nat.le_succ_of_le h.1, h.2⟩
theorem bigs_ok {c : Nat} : ∀ (l : List Nat) (i : Nat) (s : List Nat × Nat), BI c i s → BI c (i + l.length) (l.foldl (fun s _ => bigst s) s)
  | [], i, s, h => h
  | a :: l, i, s, h => by
    have := bigs_ok l (i + 1) (bigst s) (big_ok h)
    rw [List.length_cons, show i + (l.length + 1) = i + 1 + l.length by omega]
    exact this
theorem dr_ok {ns : List Int} {i k : Nat} {ds : List Nat} (h : DI i ds) : DI (i + 1) (drst ns ds k) := by
  unfold drst
  split
  · have := bigs_ok (c := 60 * i) (List.range 60) 0 (ds, (ns.getD k 0).natAbs) ⟨h.1, h.2⟩
    rw [List.length_range] at this
    exact ⟨by have := this.1; omega, this.2⟩
  · refine ⟨?_, fun d hd => ?_⟩
    · simp only [List.length_append, List.length_cons, List.length_nil]; have := h.1; omega
    · rcases List.mem_append.mp hd with hd | hd
      · rcases List.mem_append.mp hd with hd | hd
        · exact h.2 d hd
        · rw [List.mem_singleton.mp hd]; exact Nat.mod_lt _ (by decide)
      · rw [List.mem_singleton.mp hd]; exact Nat.lt_trans (Nat.mod_lt _ (by decide)) (by decide)
theorem drs_ok {ns : List Int} : ∀ (l : List Nat) (i : Nat) (ds : List Nat), DI i ds → DI (i + l.length) (l.foldl (drst ns) ds)
  | [], i, s, h => h
  | a :: l, i, s, h => by
    have := drs_ok (ns := ns) l (i + 1) (drst ns s a) (dr_ok h)
    rw [List.length_cons, show i + (l.length + 1) = i + 1 + l.length by omega]
    exact this
theorem draws_ok (ns : List Int) : DI 63 (drawsN ns) := by
  have := drs_ok (ns := ns) (List.range (min 63 ns.length)) 0 [] ⟨by decide, fun d hd => by cases hd⟩
  rw [List.length_range] at this
  exact ⟨by have := this.1; unfold drawsN; omega, this.2⟩
theorem absI (n : Int) : (if n < 0 then -n else n) = ((n.natAbs : Nat) : Int) := by
  split <;> omega
theorem r_law_draws (N k : Nat) (ns : List Int) (hn : ns.length < 1000000) : cal (tabOf fds) N (k + 1) "_law_draws" [scriptD ns] = some (eL (drawsN ns)) := by
  rw [c_law_draws _ _ _ rfl, b_law_draws]
  have mn : (if ((ns.map PyData.int).length : Int) < 63 then ((ns.map PyData.int).length : Int) else 63) = ((min 63 ns.length : Nat) : Int) := by
    rw [List.length_map]
    split <;> omega
  have y1 : bi .len [scriptD ns] = some (.int (ns.map PyData.int).length) := rfl
  have y2 : seqIx (scriptD ns) = some (ns.map .int) := rfl
  have lp := fun f ht => forGo_n f [2, 3, 4, 5] eN (fun ds : List Nat => [.val (scriptD ns), .own (ds.map eN), .no, .no, .no, .no]) (drst ns) DI 63 (List.range (min 63 ns.length)) [] 0 ⟨by decide, fun d hd => by cases hd⟩ (by rw [List.length_range]; omega) ht
  have lp2 := fun f ht => show forGo f [2, 3, 4, 5] ((List.range (min 63 ns.length)).map eN) [.val (scriptD ns), .own [], .no, .no, .no, .no] = _ from (lp f ht).1
  simp (implicitDefEqProofs := false) only [turnE_nx, turnE_cnt, rd_0, rd_o, rd_of, rd_s, gO_0, gO_s, gO2_0, gO2_s, bp_nm, bp_tp, bps_nil, bps_cons, bp_eP, v_var, v_int, v_bool, v_str, v_none, v_glb, v_op, v_ch, v_ch3, v_neg, v_not, v_and, v_or, v_b1, v_ife, v_tup, v_lst, v_idx, v_bi, v_call, v_callB, v_rev, v_cut, v_p0, v_p1, vs_nil, vs_cons, f_0, f_1, i_s, i_r1, i_r2, i_e, i_z, v_lc, v_lc2, v_ssc, v_ssc2, v_sst, v_lset, x_nil, x_cons, t_nx, t_brk, t_cnt, t_ret, x_asgF, x_asgT, x_asgp, x_par, sets_nil, sets_cons, x_app, x_ext, x_exp, x_own2, x_newT, x_ret, x_ite, x_for, x_whl, x_frz, fz_o, fz_o2, fz_v, e_rF, e_rT, e_nF, sq_l, sq_t, sx_l, sx_t, sl_l, sq_L, sx_L, sl_L, sq_Ps, sx_Ps, sl_Ps, sq_G, sx_G, sl_G, sx_P, ai, ab, at0, at1, p_add, p_sub, p_lt, p_le, p_gt, p_ge, p_isB, p_isnB, p_isN, p_isnN, y_len, y_lenT, y_lenL, y_lenPs, y_lenG, y_int, y_intB, y_abs, y_min2, y_max2, y_gcd, y_list, y_listL, y_listPs, y_all, wipeE, frE, bib, Option.bind_some, Option.map_some, List.getD_cons_zero, List.getD_cons_succ, List.set_cons_zero, List.set_cons_succ, List.map_cons, List.map_nil, List.length_cons, List.length_nil, List.replicate, List.cons_append, List.nil_append, if_true, if_false, Bool.false_eq_true, Nat.reduceSub, Nat.reduceAdd, Nat.reduceLeDiff, if_le (show 0 < 1000000 by decide), y1, mn, rng_ok (show min 63 ns.length < 1000000 by omega), Int.toNat_natCast, rng_map]
  rw [lp2 _ ?_]
  · simp (implicitDefEqProofs := false) only [turnE_nx, turnE_cnt, rd_0, rd_o, rd_of, rd_s, gO_0, gO_s, gO2_0, gO2_s, bp_nm, bp_tp, bps_nil, bps_cons, bp_eP, v_var, v_int, v_bool, v_str, v_none, v_glb, v_op, v_ch, v_ch3, v_neg, v_not, v_and, v_or, v_b1, v_ife, v_tup, v_lst, v_idx, v_bi, v_call, v_callB, v_rev, v_cut, v_p0, v_p1, vs_nil, vs_cons, f_0, f_1, i_s, i_r1, i_r2, i_e, i_z, v_lc, v_lc2, v_ssc, v_ssc2, v_sst, v_lset, x_nil, x_cons, t_nx, t_brk, t_cnt, t_ret, x_asgF, x_asgT, x_asgp, x_par, sets_nil, sets_cons, x_app, x_ext, x_exp, x_own2, x_newT, x_ret, x_ite, x_for, x_whl, x_frz, fz_o, fz_o2, fz_v, e_rF, e_rT, e_nF, sq_l, sq_t, sx_l, sx_t, sl_l, sq_L, sx_L, sl_L, sq_Ps, sx_Ps, sl_Ps, sq_G, sx_G, sl_G, sx_P, ai, ab, at0, at1, p_add, p_sub, p_lt, p_le, p_gt, p_ge, p_isB, p_isnB, p_isN, p_isnN, y_len, y_lenT, y_lenL, y_lenPs, y_lenG, y_int, y_intB, y_abs, y_min2, y_max2, y_gcd, y_list, y_listL, y_listPs, y_all, wipeE, frE, bib, Option.bind_some, Option.map_some, List.getD_cons_zero, List.getD_cons_succ, List.set_cons_zero, List.set_cons_succ, List.map_cons, List.map_nil, List.length_cons, List.length_nil, List.replicate, List.cons_append, List.nil_append, if_true, if_false, Bool.false_eq_true, Nat.reduceSub, Nat.reduceAdd, Nat.reduceLeDiff]
    rfl
  · intro i ds x hx hi hI
    refine ⟨?_, dr_ok hI⟩
    have hx' : x < min 63 ns.length := List.mem_range.mp hx
    have ha : L2.atI (ns.map PyData.int) ((x : Nat) : Int) = some (PyData.int (ns.getD x 0)) := at_map PyData.int ns x (by rw [List.getD_eq_getElem?_getD, List.getElem?_eq_getElem (by omega)]; rfl)
    have pw : op2 .pow (.int 10) (.int 18) = some (.int 1000000000000000000) := rfl
    simp (implicitDefEqProofs := false) only [turnE_nx, turnE_cnt, rd_0, rd_o, rd_of, rd_s, gO_0, gO_s, gO2_0, gO2_s, bp_nm, bp_tp, bps_nil, bps_cons, bp_eP, v_var, v_int, v_bool, v_str, v_none, v_glb, v_op, v_ch, v_ch3, v_neg, v_not, v_and, v_or, v_b1, v_ife, v_tup, v_lst, v_idx, v_bi, v_call, v_callB, v_rev, v_cut, v_p0, v_p1, vs_nil, vs_cons, f_0, f_1, i_s, i_r1, i_r2, i_e, i_z, v_lc, v_lc2, v_ssc, v_ssc2, v_sst, v_lset, x_nil, x_cons, t_nx, t_brk, t_cnt, t_ret, x_asgF, x_asgT, x_asgp, x_par, sets_nil, sets_cons, x_app, x_ext, x_exp, x_own2, x_newT, x_ret, x_ite, x_for, x_whl, x_frz, fz_o, fz_o2, fz_v, e_rF, e_rT, e_nF, sq_l, sq_t, sx_l, sx_t, sl_l, sq_L, sx_L, sl_L, sq_Ps, sx_Ps, sl_Ps, sq_G, sx_G, sl_G, sx_P, ai, ab, at0, at1, p_add, p_sub, p_lt, p_le, p_gt, p_ge, p_isB, p_isnB, p_isN, p_isnN, y_len, y_lenT, y_lenL, y_lenPs, y_lenG, y_int, y_intB, y_abs, y_min2, y_max2, y_gcd, y_list, y_listL, y_listPs, y_all, wipeE, frE, bib, Option.bind_some, Option.map_some, List.getD_cons_zero, List.getD_cons_succ, List.set_cons_zero, List.set_cons_succ, List.map_cons, List.map_nil, List.length_cons, List.length_nil, List.replicate, List.cons_append, List.nil_append, if_true, if_false, Bool.false_eq_true, Nat.reduceSub, Nat.reduceAdd, Nat.reduceLeDiff, eN, y2, ha, y_abs, absI, pw]
    unfold drst
    generalize (ns.getD x 0).natAbs = r
    by_cases hb : 10 ^ 18 ≤ r
    · rw [if_pos hb]
      have r6 : rngOk 60 = true := rng_ok (n := 60) (by decide)
      have t6 : (60 : Int).toNat = 60 := rfl
      have dl := hI.1
      have ls := fun f ht => forGo_n f [4] eN (fun s : List Nat × Nat => [.val (scriptD ns), .own (s.1.map eN), .val (.int x), .val (.int s.2), .no, .no]) (fun s _ => bigst s) (BI ds.length) 60 (List.range 60) (ds, r) 0 ⟨Nat.le_refl _, hI.2⟩ (by rw [List.length_range]; decide) ht
      simp (implicitDefEqProofs := false) only [turnE_nx, turnE_cnt, rd_0, rd_o, rd_of, rd_s, gO_0, gO_s, gO2_0, gO2_s, bp_nm, bp_tp, bps_nil, bps_cons, bp_eP, v_var, v_int, v_bool, v_str, v_none, v_glb, v_op, v_ch, v_ch3, v_neg, v_not, v_and, v_or, v_b1, v_ife, v_tup, v_lst, v_idx, v_bi, v_call, v_callB, v_rev, v_cut, v_p0, v_p1, vs_nil, vs_cons, f_0, f_1, i_s, i_r1, i_r2, i_e, i_z, v_lc, v_lc2, v_ssc, v_ssc2, v_sst, v_lset, x_nil, x_cons, t_nx, t_brk, t_cnt, t_ret, x_asgF, x_asgT, x_asgp, x_par, sets_nil, sets_cons, x_app, x_ext, x_exp, x_own2, x_newT, x_ret, x_ite, x_for, x_whl, x_frz, fz_o, fz_o2, fz_v, e_rF, e_rT, e_nF, sq_l, sq_t, sx_l, sx_t, sl_l, sq_L, sx_L, sl_L, sq_Ps, sx_Ps, sl_Ps, sq_G, sx_G, sl_G, sx_P, ai, ab, at0, at1, p_add, p_sub, p_lt, p_le, p_gt, p_ge, p_isB, p_isnB, p_isN, p_isnN, y_len, y_lenT, y_lenL, y_lenPs, y_lenG, y_int, y_intB, y_abs, y_min2, y_max2, y_gcd, y_list, y_listL, y_listPs, y_all, wipeE, frE, bib, Option.bind_some, Option.map_some, List.getD_cons_zero, List.getD_cons_succ, List.set_cons_zero, List.set_cons_succ, List.map_cons, List.map_nil, List.length_cons, List.length_nil, List.replicate, List.cons_append, List.nil_append, if_true, if_false, Bool.false_eq_true, Nat.reduceSub, Nat.reduceAdd, Nat.reduceLeDiff, decide_eq_true (show (1000000000000000000 : Int) ≤ (r : Int) by omega), r6, t6, rng_map]
      rw [(ls _ ?_).1]
      · simp (implicitDefEqProofs := false) only [turnE_nx, turnE_cnt, rd_0, rd_o, rd_of, rd_s, gO_0, gO_s, gO2_0, gO2_s, bp_nm, bp_tp, bps_nil, bps_cons, bp_eP, v_var, v_int, v_bool, v_str, v_none, v_glb, v_op, v_ch, v_ch3, v_neg, v_not, v_and, v_or, v_b1, v_ife, v_tup, v_lst, v_idx, v_bi, v_call, v_callB, v_rev, v_cut, v_p0, v_p1, vs_nil, vs_cons, f_0, f_1, i_s, i_r1, i_r2, i_e, i_z, v_lc, v_lc2, v_ssc, v_ssc2, v_sst, v_lset, x_nil, x_cons, t_nx, t_brk, t_cnt, t_ret, x_asgF, x_asgT, x_asgp, x_par, sets_nil, sets_cons, x_app, x_ext, x_exp, x_own2, x_newT, x_ret, x_ite, x_for, x_whl, x_frz, fz_o, fz_o2, fz_v, e_rF, e_rT, e_nF, sq_l, sq_t, sx_l, sx_t, sl_l, sq_L, sx_L, sl_L, sq_Ps, sx_Ps, sl_Ps, sq_G, sx_G, sl_G, sx_P, ai, ab, at0, at1, p_add, p_sub, p_lt, p_le, p_gt, p_ge, p_isB, p_isnB, p_isN, p_isnN, y_len, y_lenT, y_lenL, y_lenPs, y_lenG, y_int, y_intB, y_abs, y_min2, y_max2, y_gcd, y_list, y_listL, y_listPs, y_all, wipeE, frE, bib, Option.bind_some, Option.map_some, List.getD_cons_zero, List.getD_cons_succ, List.set_cons_zero, List.set_cons_succ, List.map_cons, List.map_nil, List.length_cons, List.length_nil, List.replicate, List.cons_append, List.nil_append, if_true, if_false, Bool.false_eq_true, Nat.reduceSub, Nat.reduceAdd, Nat.reduceLeDiff]
      · intro q s y hy hq hs
        refine ⟨?_, big_ok hs⟩
        have sl := hs.1
        unfold bigst
        by_cases h0 : 0 < s.2
        · rw [if_pos h0]
          simp (implicitDefEqProofs := false) only [turnE_nx, turnE_cnt, rd_0, rd_o, rd_of, rd_s, gO_0, gO_s, gO2_0, gO2_s, bp_nm, bp_tp, bps_nil, bps_cons, bp_eP, v_var, v_int, v_bool, v_str, v_none, v_glb, v_op, v_ch, v_ch3, v_neg, v_not, v_and, v_or, v_b1, v_ife, v_tup, v_lst, v_idx, v_bi, v_call, v_callB, v_rev, v_cut, v_p0, v_p1, vs_nil, vs_cons, f_0, f_1, i_s, i_r1, i_r2, i_e, i_z, v_lc, v_lc2, v_ssc, v_ssc2, v_sst, v_lset, x_nil, x_cons, t_nx, t_brk, t_cnt, t_ret, x_asgF, x_asgT, x_asgp, x_par, sets_nil, sets_cons, x_app, x_ext, x_exp, x_own2, x_newT, x_ret, x_ite, x_for, x_whl, x_frz, fz_o, fz_o2, fz_v, e_rF, e_rT, e_nF, sq_l, sq_t, sx_l, sx_t, sl_l, sq_L, sx_L, sl_L, sq_Ps, sx_Ps, sl_Ps, sq_G, sx_G, sl_G, sx_P, ai, ab, at0, at1, p_add, p_sub, p_lt, p_le, p_gt, p_ge, p_isB, p_isnB, p_isN, p_isnN, y_len, y_lenT, y_lenL, y_lenPs, y_lenG, y_int, y_intB, y_abs, y_min2, y_max2, y_gcd, y_list, y_listL, y_listPs, y_all, wipeE, frE, bib, Option.bind_some, Option.map_some, List.getD_cons_zero, List.getD_cons_succ, List.set_cons_zero, List.set_cons_succ, List.map_cons, List.map_nil, List.length_cons, List.length_nil, List.replicate, List.cons_append, List.nil_append, if_true, if_false, Bool.false_eq_true, Nat.reduceSub, Nat.reduceAdd, Nat.reduceLeDiff, decide_eq_true (show (0 : Int) < (s.2 : Int) by omega), p_mod (show (0 : Int) < 65536 by decide), List.length_map, if_lt (show s.1.length < 1000000 by omega), p_fdiv (show (0 : Int) < 65536 by decide) (by decide), List.map_append]
          rfl
        · rw [if_neg h0]
          simp (implicitDefEqProofs := false) only [turnE_nx, turnE_cnt, rd_0, rd_o, rd_of, rd_s, gO_0, gO_s, gO2_0, gO2_s, bp_nm, bp_tp, bps_nil, bps_cons, bp_eP, v_var, v_int, v_bool, v_str, v_none, v_glb, v_op, v_ch, v_ch3, v_neg, v_not, v_and, v_or, v_b1, v_ife, v_tup, v_lst, v_idx, v_bi, v_call, v_callB, v_rev, v_cut, v_p0, v_p1, vs_nil, vs_cons, f_0, f_1, i_s, i_r1, i_r2, i_e, i_z, v_lc, v_lc2, v_ssc, v_ssc2, v_sst, v_lset, x_nil, x_cons, t_nx, t_brk, t_cnt, t_ret, x_asgF, x_asgT, x_asgp, x_par, sets_nil, sets_cons, x_app, x_ext, x_exp, x_own2, x_newT, x_ret, x_ite, x_for, x_whl, x_frz, fz_o, fz_o2, fz_v, e_rF, e_rT, e_nF, sq_l, sq_t, sx_l, sx_t, sl_l, sq_L, sx_L, sl_L, sq_Ps, sx_Ps, sl_Ps, sq_G, sx_G, sl_G, sx_P, ai, ab, at0, at1, p_add, p_sub, p_lt, p_le, p_gt, p_ge, p_isB, p_isnB, p_isN, p_isnN, y_len, y_lenT, y_lenL, y_lenPs, y_lenG, y_int, y_intB, y_abs, y_min2, y_max2, y_gcd, y_list, y_listL, y_listPs, y_all, wipeE, frE, bib, Option.bind_some, Option.map_some, List.getD_cons_zero, List.getD_cons_succ, List.set_cons_zero, List.set_cons_succ, List.map_cons, List.map_nil, List.length_cons, List.length_nil, List.replicate, List.cons_append, List.nil_append, if_true, if_false, Bool.false_eq_true, Nat.reduceSub, Nat.reduceAdd, Nat.reduceLeDiff, decide_eq_false (show ¬ (0 : Int) < (s.2 : Int) by omega)]
    · rw [if_neg hb]
      have dl := hI.1
      have e1 : ∀ a b : Nat, (a : Int) + (b : Int) = ((a + b : Nat) : Int) := fun _ _ => rfl
      have e2 : ∀ a b : Nat, (a : Int) * (b : Int) = ((a * b : Nat) : Int) := fun _ _ => rfl
      have e3 : ∀ a b : Nat, (a : Int) % (b : Int) = ((a % b : Nat) : Int) := fun _ _ => rfl
      have la : stirA r x < 2147483647 := Nat.mod_lt _ (by decide)
      simp (implicitDefEqProofs := false) only [turnE_nx, turnE_cnt, rd_0, rd_o, rd_of, rd_s, gO_0, gO_s, gO2_0, gO2_s, bp_nm, bp_tp, bps_nil, bps_cons, bp_eP, v_var, v_int, v_bool, v_str, v_none, v_glb, v_op, v_ch, v_ch3, v_neg, v_not, v_and, v_or, v_b1, v_ife, v_tup, v_lst, v_idx, v_bi, v_call, v_callB, v_rev, v_cut, v_p0, v_p1, vs_nil, vs_cons, f_0, f_1, i_s, i_r1, i_r2, i_e, i_z, v_lc, v_lc2, v_ssc, v_ssc2, v_sst, v_lset, x_nil, x_cons, t_nx, t_brk, t_cnt, t_ret, x_asgF, x_asgT, x_asgp, x_par, sets_nil, sets_cons, x_app, x_ext, x_exp, x_own2, x_newT, x_ret, x_ite, x_for, x_whl, x_frz, fz_o, fz_o2, fz_v, e_rF, e_rT, e_nF, sq_l, sq_t, sx_l, sx_t, sl_l, sq_L, sx_L, sl_L, sq_Ps, sx_Ps, sl_Ps, sq_G, sx_G, sl_G, sx_P, ai, ab, at0, at1, p_add, p_sub, p_lt, p_le, p_gt, p_ge, p_isB, p_isnB, p_isN, p_isnN, y_len, y_lenT, y_lenL, y_lenPs, y_lenG, y_int, y_intB, y_abs, y_min2, y_max2, y_gcd, y_list, y_listL, y_listPs, y_all, wipeE, frE, bib, Option.bind_some, Option.map_some, List.getD_cons_zero, List.getD_cons_succ, List.set_cons_zero, List.set_cons_succ, List.map_cons, List.map_nil, List.length_cons, List.length_nil, List.replicate, List.cons_append, List.nil_append, if_true, if_false, Bool.false_eq_true, Nat.reduceSub, Nat.reduceAdd, Nat.reduceLeDiff, decide_eq_false (show ¬ (1000000000000000000 : Int) ≤ (r : Int) by omega)]
      have hx2 : x < 63 := by omega
      have E1 : ((r : Int) * 48271 + ((x : Int) + 1) * 69621) % 2147483647 = ((stirA r x : Nat) : Int) := by unfold stirA; omega
      have E2 : (((stirA r x : Nat) : Int) * 16807 + 11 * (x : Int) + 5) % 2147483629 = ((stirB r x : Nat) : Int) := by unfold stirB; omega
      rw [p_mul (by omega) (by decide), p_mul (by omega) (by decide)]
      simp (implicitDefEqProofs := false) only [turnE_nx, turnE_cnt, rd_0, rd_o, rd_of, rd_s, gO_0, gO_s, gO2_0, gO2_s, bp_nm, bp_tp, bps_nil, bps_cons, bp_eP, v_var, v_int, v_bool, v_str, v_none, v_glb, v_op, v_ch, v_ch3, v_neg, v_not, v_and, v_or, v_b1, v_ife, v_tup, v_lst, v_idx, v_bi, v_call, v_callB, v_rev, v_cut, v_p0, v_p1, vs_nil, vs_cons, f_0, f_1, i_s, i_r1, i_r2, i_e, i_z, v_lc, v_lc2, v_ssc, v_ssc2, v_sst, v_lset, x_nil, x_cons, t_nx, t_brk, t_cnt, t_ret, x_asgF, x_asgT, x_asgp, x_par, sets_nil, sets_cons, x_app, x_ext, x_exp, x_own2, x_newT, x_ret, x_ite, x_for, x_whl, x_frz, fz_o, fz_o2, fz_v, e_rF, e_rT, e_nF, sq_l, sq_t, sx_l, sx_t, sl_l, sq_L, sx_L, sl_L, sq_Ps, sx_Ps, sl_Ps, sq_G, sx_G, sl_G, sx_P, ai, ab, at0, at1, p_add, p_sub, p_lt, p_le, p_gt, p_ge, p_isB, p_isnB, p_isN, p_isnN, y_len, y_lenT, y_lenL, y_lenPs, y_lenG, y_int, y_intB, y_abs, y_min2, y_max2, y_gcd, y_list, y_listL, y_listPs, y_all, wipeE, frE, bib, Option.bind_some, Option.map_some, List.getD_cons_zero, List.getD_cons_succ, List.set_cons_zero, List.set_cons_succ, List.map_cons, List.map_nil, List.length_cons, List.length_nil, List.replicate, List.cons_append, List.nil_append, if_true, if_false, Bool.false_eq_true, Nat.reduceSub, Nat.reduceAdd, Nat.reduceLeDiff, p_mod (show (0 : Int) < 2147483647 by decide), E1]
      rw [p_mul (by omega) (by decide), p_mul (by decide) (by omega)]
      simp (implicitDefEqProofs := false) only [turnE_nx, turnE_cnt, rd_0, rd_o, rd_of, rd_s, gO_0, gO_s, gO2_0, gO2_s, bp_nm, bp_tp, bps_nil, bps_cons, bp_eP, v_var, v_int, v_bool, v_str, v_none, v_glb, v_op, v_ch, v_ch3, v_neg, v_not, v_and, v_or, v_b1, v_ife, v_tup, v_lst, v_idx, v_bi, v_call, v_callB, v_rev, v_cut, v_p0, v_p1, vs_nil, vs_cons, f_0, f_1, i_s, i_r1, i_r2, i_e, i_z, v_lc, v_lc2, v_ssc, v_ssc2, v_sst, v_lset, x_nil, x_cons, t_nx, t_brk, t_cnt, t_ret, x_asgF, x_asgT, x_asgp, x_par, sets_nil, sets_cons, x_app, x_ext, x_exp, x_own2, x_newT, x_ret, x_ite, x_for, x_whl, x_frz, fz_o, fz_o2, fz_v, e_rF, e_rT, e_nF, sq_l, sq_t, sx_l, sx_t, sl_l, sq_L, sx_L, sl_L, sq_Ps, sx_Ps, sl_Ps, sq_G, sx_G, sl_G, sx_P, ai, ab, at0, at1, p_add, p_sub, p_lt, p_le, p_gt, p_ge, p_isB, p_isnB, p_isN, p_isnN, y_len, y_lenT, y_lenL, y_lenPs, y_lenG, y_int, y_intB, y_abs, y_min2, y_max2, y_gcd, y_list, y_listL, y_listPs, y_all, wipeE, frE, bib, Option.bind_some, Option.map_some, List.getD_cons_zero, List.getD_cons_succ, List.set_cons_zero, List.set_cons_succ, List.map_cons, List.map_nil, List.length_cons, List.length_nil, List.replicate, List.cons_append, List.nil_append, if_true, if_false, Bool.false_eq_true, Nat.reduceSub, Nat.reduceAdd, Nat.reduceLeDiff, p_mod (show (0 : Int) < 2147483629 by decide), E2, p_mod (show (0 : Int) < 65536 by decide), List.length_map, if_lt (show ds.length < 1000000 by omega), p_fdiv (show (0 : Int) < 65536 by decide) (by decide), p_mod (show (0 : Int) < 32768 by decide), List.length_append, if_lt (show ds.length + (0 + 1) < 1000000 by omega), List.map_append]
      rfl
end K19

set_option Elab.async false
set_option linter.all false
set_option maxRecDepth 100000
set_option maxHeartbeats 4000000
namespace K19
open PySem Pv
/-! ### _law_form -/
def formN (kind n : Nat) : List (Nat × Nat) × Bool :=
  let row := (List.range (n - 1)).map fun v => (v, v + 1)
  let ring := row ++ (if 2 < n then [(0, n - 1)] else [])
  let star := (List.range (n - 1)).map fun v => (0, v + 1)
  let wheel := star ++ (List.range (n - 2)).map fun v => (v + 1, v + 2)
  let half := n / 2
  let few := min n 5
  match kind with
  | 0 => (row, true)
  | 1 => (ring, true)
  | 2 => (star, true)
  | 3 => (wheel, true)
  | 4 => ((List.range (half - 1)).map (fun v => (v, v + 1)) ++ (List.range (half - 1)).map (fun v => (half + v, half + v + 1)) ++ (List.range half).map (fun v => (v, half + v)), true)
  | 5 => (wheel ++ (if 3 < n then [(1, n - 1)] else []), decide (n < 4))
  | 6 => ((List.range few).flatMap (fun v => (List.range (few - (v + 1))).map fun w => (v, v + 1 + w)), decide (few < 4))
  | _ => (ring ++ (if 3 < n then [(0, 2), (1, 3)] else []), decide (n < 4))
def isP : D → Nat × Nat → Bool
  | .tuple [.int a, .int b], p => decide (a = (p.1 : Int)) && decide (b = (p.2 : Int))
  | _, _ => false
def isPs : List D → List (Nat × Nat) → Bool
  | [], [] => true
  | d :: ds, p :: ps => isP d p && isPs ds ps
  | _, _ => false
theorem isP_ok {d : D} {p : Nat × Nat} (h : isP d p = true) : d = eP p := by
  unfold isP at h
  split at h
  · rw [Bool.and_eq_true, decide_eq_true_eq, decide_eq_true_eq] at h
    rw [h.1, h.2]; rfl
  · cases h
theorem isPs_ok : ∀ {ds : List D} {ps : List (Nat × Nat)}, isPs ds ps = true → ds = ps.map eP
  | [], [], _ => rfl
  | d :: ds, p :: ps, h => by
    unfold isPs at h
    rw [Bool.and_eq_true] at h
    rw [List.map_cons, isP_ok h.1, isPs_ok h.2]
  | [], _ :: _, h => by cases h
  | _ :: _, [], h => by cases h
def isForm : Option D → List (Nat × Nat) × Bool → Bool
  | some (.tuple [.list ds, .bool b]), f => isPs ds f.1 && (b == f.2)
  | _, _ => false
theorem isForm_ok {o : Option D} {f : List (Nat × Nat) × Bool} (h : isForm o f = true) : o = some (.tuple [ePs f.1, .bool f.2]) := by
  unfold isForm at h
  split at h
  · rw [Bool.and_eq_true, beq_iff_eq] at h
    rw [isPs_ok h.1, h.2]; rfl
  · cases h
def formRun (kind n : Nat) : Option D := (exs (CG 100 4) 100 b_law_form ([.int kind, .int n].map .val ++ List.replicate 6 .no)).bind (endD false)
theorem forms_ok : ((List.range 8).all fun kind => (List.range 6).all fun n => isForm (formRun kind (n + 2)) (formN kind (n + 2))) = true := by decide +kernel
theorem r_law_form (kind n : Nat) (hk : kind < 8) (h1 : 2 ≤ n) (h2 : n < 8) : cal (tabOf fds) 100 5 "_law_form" [.int kind, .int n] = some (.tuple [ePs (formN kind n).1, .bool (formN kind n).2]) := by
  rw [c_law_form _ _ _ rfl]
  have h := List.all_eq_true.mp (List.all_eq_true.mp forms_ok kind (List.mem_range.mpr hk)) (n - 2) (List.mem_range.mpr (by omega))
  rw [show n - 2 + 2 = n by omega] at h
  exact isForm_ok h
/-! the second loop, all cases -/
def wideN (kind n var : Nat) : List (Nat × Nat) :=
  let pairs := (formN kind n).1
  if (pairs.headD (0, 0)).1 ≠ 0 then pairs else
  match var with
  | 0 => pairs
  | 1 => pairs ++ pairs.take 1
  | 2 => pairs ++ [(0, n)]
  | _ => [(0, n), ((pairs.headD (0, 0)).2, n)] ++ pairs.drop 1
def okLines (n : Nat) (ps : List (Nat × Nat)) : Bool := ps.all fun p => decide (p.1 < p.2) && decide (p.2 < n)
def isO (o : Option (Option (List (List Nat)))) (b : Bool) : Bool := match o with
  | some x => x.isNone == b
  | none => false
def kindOk (kind n var : Nat) : Bool :=
  let w := wideN kind n var
  decide (15 ≤ w.length) || (okLines (n + 1) w && decide (wornM 100 (pof (singles (n + 1)) w) = some (formN kind n).2) && isO (fsM 100 (n + 1) w) (formN kind n).2)
theorem kinds_ok : ((List.range 8).all fun kind => (List.range 6).all fun n => (List.range 4).all fun var => (decide (kind = 4) && decide (n % 2 = 1)) || kindOk kind (n + 2) var) = true := by decide +kernel
theorem heads_ok : ((List.range 8).all fun kind => (List.range 6).all fun n => (decide (kind = 4) && decide (n % 2 = 1)) || ((formN kind (n + 2)).1.length == 0 || false) == false) = true := by decide +kernel
end K19

set_option Elab.async false
set_option linter.all false
set_option maxRecDepth 100000
set_option maxHeartbeats 4000000
namespace K19
open PySem Pv
/-! ### joined, in plain terms -/
def Ad (ps : List (Nat × Nat)) (u v : Nat) : Prop := (u, v) ∈ ps ∨ (v, u) ∈ ps
inductive Rch (ps : List (Nat × Nat)) (s : Nat) : Nat → Prop
  | r : Rch ps s s
  | st {u v : Nat} : Rch ps s u → Ad ps u v → Rch ps s v
theorem Rch.cl {ps : List (Nat × Nat)} {s : Nat} {f : List Nat} (hs : s ∈ f) (hc : ∀ u ∈ f, ∀ v, Ad ps u v → v ∈ f) {v : Nat} (h : Rch ps s v) : v ∈ f := by
  induction h with
  | r => exact hs
  | st _ a ih => exact hc _ ih _ a
theorem ends_mem {ps : List (Nat × Nat)} {u v : Nat} : v ∈ endsN ps u ↔ Ad ps u v := by
  unfold endsN Ad
  rw [List.mem_append, List.mem_map, List.mem_map]
  constructor
  · rintro (⟨p, hp, rfl⟩ | ⟨p, hp, rfl⟩)
    · have := List.mem_filter.mp hp
      have e := of_decide_eq_true this.2
      left; rw [← e]; exact this.1
    · have := List.mem_filter.mp hp
      have e := of_decide_eq_true this.2
      right; rw [← e]; exact this.1
  · rintro (h | h)
    · exact .inl ⟨_, List.mem_filter.mpr ⟨h, decide_eq_true rfl⟩, rfl⟩
    · exact .inr ⟨_, List.mem_filter.mpr ⟨h, decide_eq_true rfl⟩, rfl⟩
structure JI (ps : List (Nat × Nat)) (s : Nat) (g : List Nat) (x : List Nat × Nat) : Prop where
  nd : x.1.Nodup
  sb : ∀ v ∈ x.1, v ∈ g
  hs : s ∈ x.1
  rc : ∀ v ∈ x.1, Rch ps s v
  le : x.2 ≤ x.1.length
  cl : ∀ i, i < x.2 → ∀ v, Ad ps (x.1.getD i 0) v → v ∈ x.1
theorem join_it {ps : List (Nat × Nat)} {s : Nat} {g : List Nat} (hsub : ∀ p ∈ ps, p.1 ∈ g ∧ p.2 ∈ g) (hg : g.length < 1000) : ∀ (n : Nat) (x : List Nat × Nat), JI ps s g x → g.length - x.2 < n → ∃ y, itO (fun s : List Nat × Nat => decide (s.2 < s.1.length)) (jst ps) n x = some y ∧ JI ps s g y ∧ y.2 = y.1.length
  | 0, x, _, h => by omega
  | n + 1, x, I, h => by
    unfold itO
    have ln := nd_len ⟨I.nd, I.sb⟩
    by_cases hc : x.2 < x.1.length
    · rw [if_pos (decide_eq_true hc)]
      have hj : jst ps x = some (x.1 ++ sortN (dedupN ((endsN ps (x.1.getD x.2 0)).filter fun v => decide (v ∉ x.1))), x.2 + 1) := by
        unfold jst
        rw [if_pos (by omega)]
      have mem : ∀ v, v ∈ sortN (dedupN ((endsN ps (x.1.getD x.2 0)).filter fun v => decide (v ∉ x.1))) ↔ Ad ps (x.1.getD x.2 0) v ∧ v ∉ x.1 := fun v => by
        rw [sortN_mem, dedupN_mem, List.mem_filter, ends_mem, decide_eq_true_eq]
      have adg : ∀ u v, Ad ps u v → v ∈ g := fun u v a => a.elim (fun z => (hsub _ z).2) (fun z => (hsub _ z).1)
      have gx : x.1.getD x.2 0 ∈ x.1 := by
        rw [List.getD_eq_getElem?_getD, List.getElem?_eq_getElem hc]; exact List.getElem_mem _
      rw [hj, Option.bind_some]
      refine join_it hsub hg n _ ⟨?_, ?_, ?_, ?_, ?_, ?_⟩ (by simp only; omega)
      · refine List.nodup_append.mpr ⟨I.nd, (sortN_perm _).nodup_iff.mpr (dedupN_nodup _), fun a ha b hb e => ?_⟩
        subst e
        exact ((mem a).mp hb).2 ha
      · intro v hv
        rcases List.mem_append.mp hv with hv | hv
        · exact I.sb v hv
        · exact adg _ _ ((mem v).mp hv).1
      · exact List.mem_append.mpr (.inl I.hs)
      · intro v hv
        rcases List.mem_append.mp hv with hv | hv
        · exact I.rc v hv
        · exact (I.rc _ gx).st ((mem v).mp hv).1
      · simp only [List.length_append]; omega
      · intro i hi v a
        simp only at hi a ⊢
        rw [List.mem_append]
        have hi2 : i < x.1.length := by omega
        have e : (x.1 ++ sortN (dedupN ((endsN ps (x.1.getD x.2 0)).filter fun v => decide (v ∉ x.1)))).getD i 0 = x.1.getD i 0 := by
          rw [List.getD_eq_getElem?_getD, List.getElem?_append_left hi2, List.getD_eq_getElem?_getD]
        rw [e] at a
        by_cases hv : v ∈ x.1
        · exact .inl hv
        · by_cases h2 : i < x.2
          · exact .inl (I.cl i h2 v a)
          · have : i = x.2 := by omega
            subst this
            exact .inr ((mem v).mpr ⟨a, hv⟩)
    · rw [if_neg (by simpa using hc)]
      exact ⟨x, rfl, I, by have := I.le; omega⟩
theorem join_spec {ps : List (Nat × Nat)} {s : Nat} {g : List Nat} (N : Nat) (hs : s ∈ g) (hsub : ∀ p ∈ ps, p.1 ∈ g ∧ p.2 ∈ g) (hg : g.length < 1000) (hN : g.length < N) : ∃ r, joinM N ps s = some r ∧ r.Pairwise (· < ·) ∧ ∀ v, v ∈ r ↔ Rch ps s v := by
  obtain ⟨y, e, I, h⟩ := join_it (ps := ps) (s := s) hsub hg N ([s], 0) ⟨by simp, fun v hv => by rw [List.mem_singleton.mp hv]; exact hs, by simp, fun v hv => by rw [List.mem_singleton.mp hv]; exact .r, by simp, fun i hi => by simp at hi⟩ (by simpa using hN)
  refine ⟨sortN y.1, ?_, sortN_asc I.nd, fun v => ?_⟩
  · unfold joinM
    rw [e]; rfl
  · rw [sortN_mem]
    refine ⟨I.rc v, fun hr => hr.cl I.hs fun u hu v a => ?_⟩
    obtain ⟨i, hi, rfl⟩ := List.getElem_of_mem hu
    exact I.cl i (by omega) v (by rw [List.getD_eq_getElem?_getD, List.getElem?_eq_getElem hi]; exact a)
theorem ins_mem {g : List Nat} {ps : List (Nat × Nat)} {p : Nat × Nat} : p ∈ insN g ps ↔ p ∈ ps ∧ p.1 ∈ g ∧ p.2 ∈ g := by
  unfold insN
  rw [List.mem_filter, Bool.and_eq_true, decide_eq_true_eq, decide_eq_true_eq]
theorem ins_ad {g : List Nat} {ps : List (Nat × Nat)} {u v : Nat} : Ad (insN g ps) u v ↔ Ad ps u v ∧ u ∈ g ∧ v ∈ g := by
  unfold Ad
  rw [ins_mem, ins_mem]
  constructor
  · rintro (⟨a, b, c⟩ | ⟨a, b, c⟩)
    · exact ⟨.inl a, b, c⟩
    · exact ⟨.inr a, c, b⟩
  · rintro ⟨a | a, b, c⟩
    · exact .inl ⟨a, b, c⟩
    · exact .inr ⟨a, c, b⟩
def Cl (g : List Nat) (ps : List (Nat × Nat)) (f : List Nat) : Prop := ∀ p ∈ ps, p.1 ∈ g → p.2 ∈ g → (p.1 ∈ f ↔ p.2 ∈ f)
theorem ljst_le (g f : List Nat) (p : Nat × Nat) : f.length ≤ (ljst g f p).length ∧ ((ljst g f p).length = f.length → ljst g f p = f ∧ (p.1 ∈ g → p.2 ∈ g → (p.1 ∈ f ↔ p.2 ∈ f))) := by
  unfold ljst
  split
  · rename_i hc
    obtain ⟨h1, h2, h3⟩ := hc
    refine ⟨by rw [List.length_append]; omega, fun h => ?_⟩
    exfalso
    rw [List.length_append] at h
    have h0 : ([p.1, p.2].filter fun v => decide (v ∉ f)).length = 0 := by omega
    have hn := List.eq_nil_of_length_eq_zero h0
    have m1 : p.1 ∈ f := by
      apply Decidable.byContradiction
      intro hh
      have : p.1 ∈ [p.1, p.2].filter fun v => decide (v ∉ f) := List.mem_filter.mpr ⟨by simp, decide_eq_true hh⟩
      rw [hn] at this; cases this
    have m2 : p.2 ∈ f := by
      apply Decidable.byContradiction
      intro hh
      have : p.2 ∈ [p.1, p.2].filter fun v => decide (v ∉ f) := List.mem_filter.mpr ⟨by simp, decide_eq_true hh⟩
      rw [hn] at this; cases this
    exact h3 (by rw [decide_eq_true m1, decide_eq_true m2])
  · rename_i hc
    refine ⟨Nat.le_refl _, fun _ => ⟨rfl, fun h1 h2 => ?_⟩⟩
    have : decide (p.1 ∈ f) = decide (p.2 ∈ f) := Decidable.byContradiction fun h => hc ⟨h1, h2, h⟩
    exact decide_eq_decide.mp this
theorem ljr_le (g : List Nat) : ∀ (ps : List (Nat × Nat)) (f : List Nat), f.length ≤ (ps.foldl (ljst g) f).length ∧ ((ps.foldl (ljst g) f).length = f.length → ps.foldl (ljst g) f = f ∧ Cl g ps f)
  | [], f => ⟨Nat.le_refl _, fun _ => ⟨rfl, fun p hp => by cases hp⟩⟩
  | p :: ps, f => by
    have a := ljst_le g f p
    have b := ljr_le g ps (ljst g f p)
    rw [List.foldl_cons]
    refine ⟨Nat.le_trans a.1 b.1, fun h => ?_⟩
    have h1 : (ljst g f p).length = f.length := by have := a.1; have := b.1; omega
    obtain ⟨e, hc⟩ := a.2 h1
    rw [e] at b h
    obtain ⟨e2, hc2⟩ := b.2 h
    rw [e]
    refine ⟨e2, fun q hq => ?_⟩
    rcases List.mem_cons.mp hq with rfl | hq
    · exact hc
    · exact hc2 q hq
theorem lj_rounds (g : List Nat) (ps : List (Nat × Nat)) : ∀ (l : List Nat) (f : List Nat), Cl g ps (l.foldl (fun f _ => ps.foldl (ljst g) f) f) ∨ f.length + l.length ≤ (l.foldl (fun f _ => ps.foldl (ljst g) f) f).length
  | [], f => .inr (Nat.le_refl _)
  | a :: l, f => by
    rw [List.foldl_cons, List.length_cons]
    have b := ljr_le g ps f
    rcases lj_rounds g ps l (ps.foldl (ljst g) f) with h | h
    · exact .inl h
    · by_cases e : (ps.foldl (ljst g) f).length = f.length
      · obtain ⟨e1, c⟩ := b.2 e
        rw [e1]
        left
        have fx : ∀ l : List Nat, l.foldl (fun f _ => ps.foldl (ljst g) f) f = f := by
          intro l
          induction l with
          | nil => rfl
          | cons x l ih => rw [List.foldl_cons, e1, ih]
        rw [fx l]
        exact c
      · right
        have := b.1
        omega
def Conn (g : List Nat) (ps : List (Nat × Nat)) : Prop := ∀ v ∈ g, Rch (insN g ps) (g.getD 0 0) v
theorem ljst_rc {g f : List Nat} {ps : List (Nat × Nat)} {s : Nat} (p : Nat × Nat) (hp : p ∈ ps) (h : ∀ v ∈ f, Rch (insN g ps) s v) : ∀ v ∈ ljst g f p, Rch (insN g ps) s v := by
  unfold ljst
  split
  · rename_i hc
    obtain ⟨h1, h2, h3⟩ := hc
    intro v hv
    have ad : Ad (insN g ps) p.1 p.2 := ins_ad.mpr ⟨.inl hp, h1, h2⟩
    have da : Ad (insN g ps) p.2 p.1 := ins_ad.mpr ⟨.inr hp, h2, h1⟩
    rcases List.mem_append.mp hv with hv | hv
    · exact h v hv
    · obtain ⟨hm, hn⟩ := List.mem_filter.mp hv
      have hn := of_decide_eq_true hn
      rcases List.mem_cons.mp hm with rfl | hm
      · have : p.2 ∈ f := Decidable.byContradiction fun z => h3 (by rw [decide_eq_false hn, decide_eq_false z])
        exact (h _ this).st da
      · have hm := List.mem_singleton.mp hm
        subst hm
        have : p.1 ∈ f := Decidable.byContradiction fun z => h3 (by rw [decide_eq_false hn, decide_eq_false z])
        exact (h _ this).st ad
  · exact h
theorem ljr_rc {g : List Nat} {qs : List (Nat × Nat)} {s : Nat} : ∀ (ps : List (Nat × Nat)) (f : List Nat), (∀ p ∈ ps, p ∈ qs) → (∀ v ∈ f, Rch (insN g qs) s v) → ∀ v ∈ ps.foldl (ljst g) f, Rch (insN g qs) s v
  | [], f, _, h => h
  | p :: ps, f, hp, h => ljr_rc ps _ (fun q hq => hp q (List.mem_cons_of_mem _ hq)) (ljst_rc p (hp p (List.mem_cons_self ..)) h)
theorem ljr_mem {g : List Nat} {v : Nat} : ∀ (ps : List (Nat × Nat)) (f : List Nat), v ∈ f → v ∈ ps.foldl (ljst g) f
  | [], f, h => h
  | p :: ps, f, h => ljr_mem ps _ (by
    unfold ljst
    split
    · exact List.mem_append.mpr (.inl h)
    · exact h)
theorem lj_spec {g : List Nat} {ps : List (Nat × Nat)} (hn : g.Nodup) (h0 : 0 < g.length) : ljM g ps = true ↔ Conn g ps := by
  have h1 : g.take 1 = [g.getD 0 0] := by
    cases g with
    | nil => cases h0
    | cons a r => rfl
  have gm : g.getD 0 0 ∈ g := by
    cases g with
    | nil => cases h0
    | cons a r => simp
  have all : ∀ (l : List Nat) (f : List Nat), (f.Nodup ∧ ∀ v ∈ f, v ∈ g) → g.getD 0 0 ∈ f → (∀ v ∈ f, Rch (insN g ps) (g.getD 0 0) v) →
      ((l.foldl (fun f _ => ps.foldl (ljst g) f) f).Nodup ∧ ∀ v ∈ l.foldl (fun f _ => ps.foldl (ljst g) f) f, v ∈ g) ∧ g.getD 0 0 ∈ l.foldl (fun f _ => ps.foldl (ljst g) f) f ∧ ∀ v ∈ l.foldl (fun f _ => ps.foldl (ljst g) f) f, Rch (insN g ps) (g.getD 0 0) v := by
    intro l
    induction l with
    | nil => intro f a b c; exact ⟨a, b, c⟩
    | cons x l ih =>
      intro f a b c
      rw [List.foldl_cons]
      exact ih _ (ljfold_ok ps f a) (ljr_mem ps f b) (ljr_rc ps f (fun p hp => hp) c)
  obtain ⟨i1, i2, i3⟩ := all (List.range g.length) (g.take 1) (by rw [h1]; exact ⟨by simp, fun v hv => by rw [List.mem_singleton.mp hv]; exact gm⟩) (by rw [h1]; simp) (by rw [h1]; intro v hv; rw [List.mem_singleton.mp hv]; exact .r)
  have rd := lj_rounds g ps (List.range g.length) (g.take 1)
  unfold ljM
  rw [decide_eq_true_eq]
  unfold ljF
  generalize (List.range g.length).foldl (fun f _ => ps.foldl (ljst g) f) (g.take 1) = F at *
  constructor
  · intro e v hv
    exact i3 v (sortN_mem.mp (by rw [e]; exact sortN_mem.mpr hv))
  · intro hc
    have cl : Cl g ps F := by
      rcases rd with h | h
      · exact h
      · exfalso
        have := nd_len i1
        rw [List.length_range, h1] at h
        simp at h
        omega
    refine asc_eq (sortN_asc i1.1) (sortN_asc hn) fun j => ?_
    rw [sortN_mem, sortN_mem]
    refine ⟨i1.2 j, fun hj => (hc j hj).cl i2 fun u hu v a => ?_⟩
    obtain ⟨a | a, b, c⟩ := ins_ad.mp a
    · exact (cl _ a b c).mp hu
    · exact (cl _ a c b).mpr hu
end K19

set_option Elab.async false
set_option linter.all false
set_option maxRecDepth 100000
set_option maxHeartbeats 4000000
namespace K19
open PySem Pv
theorem asc_iff : ∀ g : List Nat, ascB g = true ↔ g.Pairwise (· < ·)
  | [] => by simp [ascB]
  | [a] => by simp [ascB]
  | a :: b :: r => by
    have ih := asc_iff (b :: r)
    have e : ascB (a :: b :: r) = (decide (a < b) && ascB (b :: r)) := rfl
    rw [e, Bool.and_eq_true, decide_eq_true_eq, ih]
    constructor
    · rintro ⟨h1, h2⟩
      refine List.pairwise_cons.mpr ⟨fun x hx => ?_, h2⟩
      rcases List.mem_cons.mp hx with rfl | hx
      · exact h1
      · exact Nat.lt_trans h1 ((List.pairwise_cons.mp h2).1 x hx)
    · intro h
      obtain ⟨h1, h2⟩ := List.pairwise_cons.mp h
      exact ⟨h1 b (List.mem_cons_self ..), h2⟩
theorem dd_nd : ∀ {l : List Nat}, ¬ (dedupN l).length < l.length → l.Nodup
  | [], _ => .nil
  | x :: r, h => by
    have le := dedupN_le r
    unfold dedupN at h
    split at h
    · rw [List.length_cons] at h; omega
    · rename_i hx
      rw [List.length_cons, List.length_cons] at h
      exact List.nodup_cons.mpr ⟨hx, dd_nd (by omega)⟩
theorem nd_asc {g : List Nat} (h : g.Pairwise (· < ·)) : g.Nodup := h.imp fun a => Nat.ne_of_lt a
theorem bad2_eq {g : List Nat} (h : 0 < g.length) : bad2 g = !ascB g := by
  unfold bad2
  rw [decide_eq_false (fun e => by rw [e] at h; simp at h), Bool.false_or]
  congr 1
  rw [Bool.eq_iff_iff, decide_eq_true_eq, asc_iff]
  constructor
  · intro e; rw [← e]; exact sortN_asc (dedupN_nodup g)
  · intro a
    refine asc_eq (sortN_asc (dedupN_nodup g)) a fun j => ?_
    rw [sortN_mem, dedupN_mem]
theorem badg_eq {g : List Nat} {ps : List (Nat × Nat)} (h0 : 0 < g.length) (hl : g.length < 100) : badg 100 ps g = some (!(ascB g && ljM g ps)) := by
  unfold badg
  by_cases a : ascB g = true
  · rw [if_pos a, a, Bool.true_and]
    have as := (asc_iff g).mp a
    have gm : g.getD 0 0 ∈ g := by
      cases g with
      | nil => cases h0
      | cons a r => simp
    obtain ⟨r, e, r1, r2⟩ := join_spec (ps := insN g ps) (s := g.getD 0 0) (g := g) 100 gm (fun p hp => (ins_mem.mp hp).2) (by omega) hl
    rw [e, Option.map_some]
    congr 2
    rw [Bool.eq_iff_iff, decide_eq_true_eq, lj_spec (nd_asc as) h0]
    constructor
    · intro e v hv
      exact (r2 v).mp (by rw [e]; exact hv)
    · intro c
      refine asc_eq r1 as fun j => ⟨fun hj => ?_, fun hj => (r2 j).mpr (c j hj)⟩
      exact ((r2 j).mp hj).cl gm fun u hu v ad => (ins_ad.mp ad).2.2
  · rw [if_neg a, Bool.eq_false_iff.mpr a]; rfl
theorem fb_find {α : Type} (w : α → Option Bool) (p : α → Bool) : ∀ l : List α, (∀ x ∈ l, w x = some (p x)) → fb w l = some (l.find? p)
  | [], _ => rfl
  | x :: l, h => by
    unfold fb
    rw [h x (List.mem_cons_self ..), List.find?_cons]
    cases p x with
    | true => rfl
    | false => exact fb_find w p l fun y hy => h y (List.mem_cons_of_mem _ hy)
theorem ix_mem {gs : List (List Nat)} {v j : Nat} : j ∈ ix gs v ↔ ∃ g, gs[j]? = some g ∧ v ∈ g := by
  unfold ix
  rw [List.mem_map]
  constructor
  · rintro ⟨⟨g, i⟩, h, rfl⟩
    obtain ⟨h1, h2⟩ := List.mem_filter.mp h
    exact ⟨g, List.mem_zipIdx_iff_getElem?.mp h1, of_decide_eq_true h2⟩
  · rintro ⟨g, h1, h2⟩
    exact ⟨(g, j), List.mem_filter.mpr ⟨List.mem_zipIdx_iff_getElem?.mpr h1, decide_eq_true h2⟩, rfl⟩
theorem ix_asc (gs : List (List Nat)) (v : Nat) : (ix gs v).Pairwise (· < ·) := by
  have h : (ix gs v).Sublist ((gs.zipIdx).map (·.2)) := List.Sublist.map _ List.filter_sublist
  rw [List.zipIdx_map_snd] at h
  exact List.Pairwise.sublist h List.pairwise_lt_range'
theorem putN_nd {l : List (Nat × Nat)} {k : Nat × Nat} (h : l.Nodup) : (putN l k).Nodup := by
  unfold putN
  split
  · exact h
  · rename_i hk
    refine List.nodup_append.mpr ⟨h, by simp, fun a ha b hb e => ?_⟩
    rw [List.mem_singleton.mp hb] at e
    subst e; exact hk ha
theorem keys_nd (gs : List (List Nat)) : ∀ (ps ks : List (Nat × Nat)), ks.Nodup → (ps.foldl (stP gs) ks).Nodup
  | [], ks, h => h
  | p :: ps, ks, h => keys_nd gs ps _ (by
    unfold stP
    split
    · exact putN_nd h
    · exact h)
theorem insP_perm (x : Nat × Nat) : ∀ l, (insP x l).Perm (x :: l)
  | [] => List.Perm.refl _
  | y :: r => by
    unfold insP
    split
    · exact List.Perm.refl _
    · exact ((insP_perm x r).cons y).trans (List.Perm.swap x y r)
theorem sortP_perm : ∀ l : List (Nat × Nat), (sortP l).Perm l
  | [] => List.Perm.refl _
  | x :: r => by
    unfold sortP
    exact (insP_perm x _).trans ((sortP_perm r).cons x)
theorem pof_nd (gs : List (List Nat)) (ps : List (Nat × Nat)) : (pof gs ps).Nodup := (sortP_perm _).nodup_iff.mpr (keys_nd gs ps [] .nil)
theorem nd_lenP {α : Type} [DecidableEq α] : ∀ {f g : List α}, f.Nodup → (∀ v ∈ f, v ∈ g) → f.length ≤ g.length := by
  intro f
  induction f with
  | nil => intro g _ _; exact Nat.zero_le _
  | cons a f ih =>
    intro g nd sb
    obtain ⟨h1, h2⟩ := List.nodup_cons.mp nd
    have ha := sb a (List.mem_cons_self ..)
    have := ih (g := g.erase a) h2 fun v hv => (List.mem_erase_of_ne (fun e => h1 (by rw [← e]; exact hv))).mpr (sb v (List.mem_cons_of_mem _ hv))
    rw [List.length_erase_of_mem ha] at this
    have hp := List.length_pos_of_mem ha
    rw [List.length_cons]
    omega
theorem adj_iff {ps : List (Nat × Nat)} {g h : List Nat} : adjB ps g h = true ↔ ∃ p ∈ ps, (p.1 ∈ g ∧ p.2 ∈ h) ∨ (p.2 ∈ g ∧ p.1 ∈ h) := by
  unfold adjB
  rw [List.any_eq_true]
  simp only [Bool.or_eq_true, Bool.and_eq_true, decide_eq_true_eq]
end K19

set_option Elab.async false
set_option linter.all false
set_option maxRecDepth 100000
set_option maxHeartbeats 4000000
namespace K19
open PySem Pv
theorem disj : ∀ {told : List (List Nat)}, told.flatten.Nodup → ∀ {i j : Nat} {g h : List Nat} {v : Nat}, told[i]? = some g → told[j]? = some h → v ∈ g → v ∈ h → i = j
  | [], _, i, j, g, h, v, e, _, _, _ => by simp at e
  | a :: r, nd, i, j, g, h, v, e1, e2, m1, m2 => by
    rw [List.flatten_cons] at nd
    obtain ⟨n1, n2, n3⟩ := List.nodup_append.mp nd
    cases i with
    | zero =>
      cases j with
      | zero => rfl
      | succ j =>
        exfalso
        rw [List.getElem?_cons_zero] at e1
        cases e1
        rw [List.getElem?_cons_succ] at e2
        exact n3 v m1 v (List.mem_flatten.mpr ⟨h, List.mem_of_getElem? e2, m2⟩) rfl
    | succ i =>
      rw [List.getElem?_cons_succ] at e1
      cases j with
      | zero =>
        exfalso
        rw [List.getElem?_cons_zero] at e2
        cases e2
        exact n3 v m2 v (List.mem_flatten.mpr ⟨g, List.mem_of_getElem? e1, m1⟩) rfl
      | succ j =>
        rw [List.getElem?_cons_succ] at e2
        rw [disj n2 e1 e2 m1 m2]
theorem ix_one {told : List (List Nat)} (nd : told.flatten.Nodup) {i v : Nat} {g : List Nat} (e : told[i]? = some g) (m : v ∈ g) : ix told v = [i] := by
  refine asc_eq (ix_asc told v) (List.pairwise_singleton _ _) fun j => ?_
  rw [ix_mem, List.mem_singleton]
  constructor
  · rintro ⟨h, e2, m2⟩
    exact disj nd e2 e m2 m
  · rintro rfl
    exact ⟨g, e, m⟩
theorem lkey_iff {told : List (List Nat)} (nd : told.flatten.Nodup) {p y : Nat × Nat} : lkey told p = some y ↔ ∃ i j g h, told[i]? = some g ∧ told[j]? = some h ∧ p.1 ∈ g ∧ p.2 ∈ h ∧ i ≠ j ∧ y = (min i j, max i j) := by
  constructor
  · intro h
    unfold lkey at h
    split at h
    · rename_i x xs z zs h1 h2
      split at h
      · cases h
      · rename_i hne
        cases h
        obtain ⟨g, e1, m1⟩ := (ix_mem (gs := told) (v := p.1) (j := x)).mp (by rw [h1]; exact List.mem_cons_self ..)
        obtain ⟨g2, e2, m2⟩ := (ix_mem (gs := told) (v := p.2) (j := z)).mp (by rw [h2]; exact List.mem_cons_self ..)
        refine ⟨x, z, g, g2, e1, e2, m1, m2, fun e => hne ?_, rfl⟩
        rw [← h1, ← h2, ix_one nd e1 m1, ix_one nd e2 m2, e]
    · cases h
  · rintro ⟨i, j, g, h, e1, e2, m1, m2, hne, rfl⟩
    unfold lkey
    rw [ix_one nd e1 m1, ix_one nd e2 m2]
    simp only []
    rw [if_neg (by simpa using hne)]
theorem getD_some {told : List (List Nat)} {i v : Nat} (h : v ∈ told.getD i []) : told[i]? = some (told.getD i []) := by
  rw [List.getD_eq_getElem?_getD] at h ⊢
  cases e : told[i]? with
  | none => rw [e] at h; cases h
  | some g => rfl
theorem pof_iff {told : List (List Nat)} (nd : told.flatten.Nodup) (h4 : told.length = 4) {ps : List (Nat × Nat)} {y : Nat × Nat} : y ∈ pof told ps ↔ y.1 < y.2 ∧ y.2 < 4 ∧ adjB ps (told.getD y.2 []) (told.getD y.1 []) = true := by
  rw [pof_mem, adj_iff]
  constructor
  · rintro ⟨p, hp, hk⟩
    obtain ⟨i, j, g, h, e1, e2, m1, m2, hne, rfl⟩ := (lkey_iff nd).mp hk
    have li := (List.getElem?_eq_some_iff.mp e1).1
    have lj := (List.getElem?_eq_some_iff.mp e2).1
    have g1 : told.getD i [] = g := by rw [List.getD_eq_getElem?_getD, e1]; rfl
    have g2 : told.getD j [] = h := by rw [List.getD_eq_getElem?_getD, e2]; rfl
    refine ⟨by simp only; omega, by simp only; omega, p, hp, ?_⟩
    simp only
    by_cases hij : i < j
    · rw [Nat.max_eq_right (by omega), Nat.min_eq_left (by omega), g1, g2]
      exact .inr ⟨m2, m1⟩
    · rw [Nat.max_eq_left (by omega), Nat.min_eq_right (by omega), g1, g2]
      exact .inl ⟨m1, m2⟩
  · rintro ⟨h1, h2, p, hp, h | h⟩
    · refine ⟨p, hp, (lkey_iff nd).mpr ⟨y.2, y.1, _, _, getD_some h.1, getD_some h.2, h.1, h.2, by omega, ?_⟩⟩
      rw [Nat.min_eq_right (by omega), Nat.max_eq_left (by omega)]
    · refine ⟨p, hp, (lkey_iff nd).mpr ⟨y.1, y.2, _, _, getD_some h.2, getD_some h.1, h.2, h.1, by omega, ?_⟩⟩
      rw [Nat.min_eq_left (by omega), Nat.max_eq_right (by omega)]
def L6 : List (Nat × Nat) := [(0, 1), (0, 2), (0, 3), (1, 2), (1, 3), (2, 3)]
theorem mem_L6 {y : Nat × Nat} : y ∈ L6 ↔ y.1 < y.2 ∧ y.2 < 4 := by
  obtain ⟨a, b⟩ := y
  unfold L6
  simp only [List.mem_cons, Prod.mk.injEq, List.not_mem_nil, or_false]
  omega
theorem six {told : List (List Nat)} (nd : told.flatten.Nodup) (h4 : told.length = 4) (ps : List (Nat × Nat)) : decide ((pof told ps).length = 6) = ((List.range 4).find? fun s => ((List.range s).find? fun t => !adjB ps (told.getD s []) (told.getD t [])).isSome).isNone := by
  have sub : ∀ y ∈ pof told ps, y ∈ L6 := fun y hy => mem_L6.mpr ⟨((pof_iff nd h4).mp hy).1, ((pof_iff nd h4).mp hy).2.1⟩
  have pn := pof_nd told ps
  rw [Bool.eq_iff_iff, decide_eq_true_eq, Option.isNone_iff_eq_none, List.find?_eq_none]
  constructor
  · intro h6 s hs hc
    obtain ⟨t, ht⟩ := Option.isSome_iff_exists.mp hc
    have hb := List.find?_some ht
    have htm := List.mem_range.mp (List.mem_of_find?_eq_some ht)
    have hs4 := List.mem_range.mp hs
    have : (t, s) ∈ pof told ps := by
      apply Decidable.byContradiction
      intro hn
      have le := nd_lenP (g := L6.erase (t, s)) pn fun v hv => (List.mem_erase_of_ne (fun e => hn (by rw [← e]; exact hv))).mpr (sub v hv)
      rw [List.length_erase_of_mem (mem_L6.mpr ⟨htm, hs4⟩), h6] at le
      exact absurd le (by decide)
    have := ((pof_iff nd h4).mp this).2.2
    simp only at this
    rw [this] at hb
    cases hb
  · intro h
    have le1 := nd_lenP pn sub
    have le2 := nd_lenP (f := L6) (g := pof told ps) (by decide) fun y hy => by
      obtain ⟨h1, h2⟩ := mem_L6.mp hy
      refine (pof_iff nd h4).mpr ⟨h1, h2, ?_⟩
      apply Decidable.byContradiction
      intro hn
      refine h y.2 (List.mem_range.mpr h2) ?_
      rw [List.find?_isSome]
      exact ⟨y.1, List.mem_range.mpr h1, by rw [Bool.eq_false_iff.mpr hn]; rfl⟩
    have e : L6.length = 6 := rfl
    omega
theorem af_eq (n : Nat) (ps : List (Nat × Nat)) (told : List (List Nat)) (hn : n ≤ 8) : afM 100 n ps told = some (lafM n ps told) := by
  unfold afM lafM
  by_cases c1 : told.length = 4
  · rw [decide_eq_true c1]
    simp only [Bool.not_true, Bool.false_or]
    by_cases c2 : (told.all fun g => decide (0 < g.length)) = true
    · rw [c2]
      simp only [Bool.not_true, Bool.false_eq_true, if_false]
      have c3e : (told.flatten.any fun v => !decide (v < n)) = !(told.flatten.all fun v => decide (v < n)) := by
        rw [List.not_all_eq_any_not]
      rw [c3e]
      have nz : ∀ g ∈ told, 0 < g.length := fun g hg => of_decide_eq_true (List.all_eq_true.mp c2 g hg)
      by_cases c3 : (told.flatten.all fun v => decide (v < n)) = true
      · rw [c3]
        simp only [Bool.not_true, Bool.false_or, Bool.or_false]
        by_cases c4 : (dedupN told.flatten).length < told.flatten.length
        · rw [decide_eq_true c4]
          simp
        · rw [decide_eq_false c4]
          simp only [Bool.false_eq_true, if_false, Bool.or_false]
          have nd := dd_nd c4
          have sm : ∀ g ∈ told, g.length < 100 := fun g hg => by
            have h1 := flen_mem hg
            have h2 := nd_len (f := told.flatten) (g := List.range n) ⟨nd, fun v hv => List.mem_range.mpr (of_decide_eq_true (List.all_eq_true.mp c3 v hv))⟩
            rw [List.length_range] at h2
            omega
          rw [fb_find (badg 100 ps) (fun g => !(ascB g && ljM g ps)) told fun g hg => badg_eq (nz g hg) (sm g hg), Option.map_some]
          congr 1
          cases hf : told.find? fun g => !(ascB g && ljM g ps) with
          | some g =>
            have hb := List.find?_some hf
            have hg := List.mem_of_find?_eq_some hf
            simp only []
            by_cases a : ascB g = true
            · rw [a, Bool.true_and] at hb
              have : (told.any fun g => !ljM g ps) = true := List.any_eq_true.mpr ⟨g, hg, hb⟩
              rw [this]
              simp
            · have : told.any bad2 = true := List.any_eq_true.mpr ⟨g, hg, by rw [bad2_eq (nz g hg), Bool.eq_false_iff.mpr a]; rfl⟩
              rw [this]
              simp
          | none =>
            have hn := List.find?_eq_none.mp hf
            have h1 : told.any bad2 = false := by
              rw [List.any_eq_false]
              intro g hg hb
              rw [bad2_eq (nz g hg)] at hb
              refine hn g hg ?_
              revert hb
              cases ascB g <;> simp
            have h2 : (told.any fun g => !ljM g ps) = false := by
              rw [List.any_eq_false]
              intro g hg hb
              refine hn g hg ?_
              revert hb
              cases ljM g ps <;> simp
            rw [h1, h2]
            simp only [Bool.false_eq_true, if_false]
            exact six nd c1 ps
      · rw [Bool.eq_false_iff.mpr c3]
        simp
    · rw [Bool.eq_false_iff.mpr c2]
      have : told.any bad2 = true := by
        obtain ⟨g, hg, h⟩ := List.all_eq_false.mp (Bool.eq_false_iff.mpr c2)
        refine List.any_eq_true.mpr ⟨g, hg, ?_⟩
        unfold bad2
        have : g = [] := List.eq_nil_of_length_eq_zero (by have := of_decide_eq_false (Bool.eq_false_iff.mpr h); omega)
        rw [decide_eq_true this]; rfl
      rw [this]
      simp
  · rw [decide_eq_false c1]
    simp
end K19

set_option Elab.async false
set_option linter.all false
set_option maxRecDepth 100000
set_option maxHeartbeats 4000000
namespace K19
open PySem Pv
/-! ### what is told of a set of lines -/
def ltP (p q : Nat × Nat) : Prop := p.1 < q.1 ∨ (p.1 = q.1 ∧ p.2 < q.2)
theorem leP_iff {p q : Nat × Nat} : leP p q = true ↔ p = q ∨ ltP p q := by
  obtain ⟨a, b⟩ := p
  obtain ⟨c, d⟩ := q
  unfold leP ltP
  simp only [Prod.mk.injEq]
  split
  · rw [decide_eq_true_eq]; omega
  · rw [decide_eq_true_eq]; omega
theorem insP_sorted (x : Nat × Nat) : ∀ l : List (Nat × Nat), l.Pairwise (fun p q => p = q ∨ ltP p q) → (insP x l).Pairwise (fun p q => p = q ∨ ltP p q)
  | [], _ => List.pairwise_singleton _ _
  | y :: r, h => by
    unfold insP
    obtain ⟨h1, h2⟩ := List.pairwise_cons.mp h
    split
    · rename_i hxy
      have hxy := leP_iff.mp hxy
      refine List.pairwise_cons.mpr ⟨fun z hz => ?_, h⟩
      rcases List.mem_cons.mp hz with rfl | hz2
      · exact hxy
      · rcases hxy with rfl | a
        · exact h1 z hz2
        · rcases h1 z hz2 with rfl | b
          · exact .inr a
          · right; unfold ltP at *; omega
    · rename_i hxy
      refine List.pairwise_cons.mpr ⟨fun z hz => ?_, insP_sorted x r h2⟩
      rcases List.mem_cons.mp ((insP_perm x r).mem_iff.mp hz) with rfl | hz
      · right
        have hn : ¬ (z = y ∨ ltP z y) := fun e => hxy (leP_iff.mpr e)
        obtain ⟨a, b⟩ := z
        obtain ⟨c, d⟩ := y
        unfold ltP at *
        simp only [Prod.mk.injEq] at *
        omega
      · exact h1 z hz
theorem sortP_sorted : ∀ l : List (Nat × Nat), (sortP l).Pairwise (fun p q => p = q ∨ ltP p q)
  | [] => .nil
  | x :: r => by unfold sortP; exact insP_sorted x _ (sortP_sorted r)
theorem ascP_eq : ∀ {l m : List (Nat × Nat)}, l.Pairwise ltP → m.Pairwise ltP → (∀ j, j ∈ l ↔ j ∈ m) → l = m
  | [], [], _, _, _ => rfl
  | [], y :: m, _, _, h => absurd ((h y).mpr (List.mem_cons_self ..)) (by simp)
  | x :: l, [], _, _, h => absurd ((h x).mp (List.mem_cons_self ..)) (by simp)
  | x :: l, y :: m, hl, hm, h => by
    obtain ⟨a1, a2⟩ := List.pairwise_cons.mp hl
    obtain ⟨b1, b2⟩ := List.pairwise_cons.mp hm
    have irr : ∀ {p q : Nat × Nat}, ltP p q → ltP q p → False := fun a b => by unfold ltP at *; omega
    have irr1 : ∀ {p : Nat × Nat}, ltP p p → False := fun a => by unfold ltP at *; omega
    have exy : x = y := by
      rcases List.mem_cons.mp ((h x).mp (List.mem_cons_self ..)) with e | e
      · exact e
      · rcases List.mem_cons.mp ((h y).mpr (List.mem_cons_self ..)) with e2 | e2
        · exact e2.symm
        · exact (irr (b1 x e) (a1 y e2)).elim
    subst exy
    congr 1
    refine ascP_eq a2 b2 fun j => ⟨fun hj => ?_, fun hj => ?_⟩
    · rcases List.mem_cons.mp ((h j).mp (List.mem_cons_of_mem _ hj)) with e | e
      · subst e; exact (irr1 (a1 j hj)).elim
      · exact e
    · rcases List.mem_cons.mp ((h j).mpr (List.mem_cons_of_mem _ hj)) with e | e
      · subst e; exact (irr1 (b1 j hj)).elim
      · exact e
theorem pof_asc (gs : List (List Nat)) (ps : List (Nat × Nat)) : (pof gs ps).Pairwise ltP :=
  (sortP_sorted _).imp₂ (fun {a b} h1 h2 => h1.resolve_left h2) (pof_nd gs ps)
theorem pof_set {ps qs : List (Nat × Nat)} (h : ∀ p, p ∈ ps ↔ p ∈ qs) (gs : List (List Nat)) : pof gs ps = pof gs qs :=
  ascP_eq (pof_asc gs ps) (pof_asc gs qs) fun j => by
    rw [pof_mem, pof_mem]
    exact ⟨fun ⟨p, a, b⟩ => ⟨p, (h p).mp a, b⟩, fun ⟨p, a, b⟩ => ⟨p, (h p).mpr a, b⟩⟩
theorem bad_set {ps qs : List (Nat × Nat)} (h : ∀ p, p ∈ ps ↔ p ∈ qs) (N : Nat) : bad N ps = bad N qs := by
  funext t
  unfold bad
  rw [pof_set h]
theorem few_set {ps qs : List (Nat × Nat)} (h : ∀ p, p ∈ ps ↔ p ∈ qs) (N : Nat) : fewC N ps = fewC N qs := by
  funext gs
  unfold fewC fewM
  rw [bad_set h, pof_set h]
theorem fs_set {ps qs : List (Nat × Nat)} (h : ∀ p, p ∈ ps ↔ p ∈ qs) (N n : Nat) : fsM N n ps = fsM N n qs := by
  unfold fsM
  rw [few_set h, pof_set h]
theorem rch_set {ps qs : List (Nat × Nat)} (h : ∀ p, p ∈ ps → p ∈ qs) {s v : Nat} (r : Rch ps s v) : Rch qs s v := by
  induction r with
  | r => exact .r
  | st _ a ih => exact ih.st (a.imp (h _) (h _))
theorem conn_set {ps qs : List (Nat × Nat)} (h : ∀ p, p ∈ ps ↔ p ∈ qs) (g : List Nat) : Conn g ps ↔ Conn g qs := by
  have a : ∀ {ps qs : List (Nat × Nat)}, (∀ p, p ∈ ps ↔ p ∈ qs) → Conn g ps → Conn g qs := fun h c v hv => rch_set (fun p hp => ins_mem.mpr ⟨(h p).mp (ins_mem.mp hp).1, (ins_mem.mp hp).2⟩) (c v hv)
  exact ⟨a h, a fun p => (h p).symm⟩
theorem adj_set {ps qs : List (Nat × Nat)} (h : ∀ p, p ∈ ps ↔ p ∈ qs) (g k : List Nat) : adjB ps g k = adjB qs g k := by
  rw [Bool.eq_iff_iff, adj_iff, adj_iff]
  exact ⟨fun ⟨p, a, b⟩ => ⟨p, (h p).mp a, b⟩, fun ⟨p, a, b⟩ => ⟨p, (h p).mpr a, b⟩⟩
theorem laf_set {ps qs : List (Nat × Nat)} (h : ∀ p, p ∈ ps ↔ p ∈ qs) (n : Nat) (told : List (List Nat)) : lafM n ps told = lafM n qs told := by
  unfold lafM
  by_cases c : told.any bad2 = true
  · rw [c]; simp
  · have e : (told.any fun g => !ljM g ps) = told.any fun g => !ljM g qs := by
      have : ∀ g ∈ told, ljM g ps = ljM g qs := fun g hg => by
        have hb : bad2 g = false := by
          cases hb : bad2 g with
          | false => rfl
          | true => exact absurd (List.any_eq_true.mpr ⟨g, hg, hb⟩) c
        obtain ⟨nd, ne⟩ := nd_of_bad2 hb
        have h0 : 0 < g.length := List.length_pos_iff.mpr ne
        rw [Bool.eq_iff_iff, lj_spec nd h0, lj_spec nd h0, conn_set h]
      rw [Bool.eq_iff_iff, List.any_eq_true, List.any_eq_true]
      exact ⟨fun ⟨g, a, b⟩ => ⟨g, a, by rw [← this g a]; exact b⟩, fun ⟨g, a, b⟩ => ⟨g, a, by rw [this g a]; exact b⟩⟩
    rw [e]
    simp only [adj_set h]
theorem has_set {ps qs : List (Nat × Nat)} (h : ∀ p, p ∈ ps ↔ p ∈ qs) (n : Nat) : hasM n ps = hasM n qs := by
  unfold hasM
  congr 1
  funext t
  exact laf_set h n t
end K19

set_option Elab.async false
set_option linter.all false
set_option maxRecDepth 100000
set_option maxHeartbeats 4000000
namespace K19
open PySem Pv
/-! ### all graphs with at most five nodes -/
def allE (n : Nat) : List (Nat × Nat) := (List.range n).flatMap fun a => (List.range (n - 1 - a)).map fun d => (a, a + 1 + d)
def subs {α : Type} : List α → List (List α)
  | [] => [[]]
  | x :: r => subs r ++ (subs r).map (x :: ·)
def rowsLit : Nat → List (List (List Nat))
  | 1 => []
  | 2 => []
  | 3 => []
  | 4 => [[[0], [1], [2], [3]]]
  | 5 => [[[0], [1], [2], [3]], [[0], [1], [2], [4]], [[0], [1], [3], [4]], [[0], [2], [3], [4]], [[1], [2], [3], [4]], [[0, 1], [2], [3], [4]], [[0, 2], [1], [3], [4]], [[0], [1, 2], [3], [4]], [[0, 3], [1], [2], [4]], [[0], [1, 3], [2], [4]], [[0], [1], [2, 3], [4]], [[0, 4], [1], [2], [3]], [[0], [1, 4], [2], [3]], [[0], [1], [2, 4], [3]], [[0], [1], [2], [3, 4]]]
  | _ => []
theorem rows_lit : ((List.range 5).all fun n => decide ((rowsN (n + 1)).filter (fun t => !t.any bad2) = rowsLit (n + 1))) = true := by decide +kernel
def gOk (n : Nat) (E : List (Nat × Nat)) : Bool :=
  let c := (rowsLit n).any (lafM n E)
  decide (wornM 100 (pof (singles n) E) = some (!c)) && (match fsM 100 n E with
    | some none => !c
    | some (some g) => c && (lafM n E g && decide (g.flatten.length ≤ 5))
    | none => false) && (c || E.all fun e => decide (wornM 100 (pof (singles n) (E.filter fun x => !decide (x = e))) = some true))
theorem g_1 : (subs (allE 1)).all (gOk 1) = true := by decide +kernel
theorem g_2 : (subs (allE 2)).all (gOk 2) = true := by decide +kernel
theorem g_3 : (subs (allE 3)).all (gOk 3) = true := by decide +kernel
theorem g_4 : (subs (allE 4)).all (gOk 4) = true := by decide +kernel
end K19

set_option Elab.async false
set_option linter.all false
set_option maxRecDepth 100000
set_option maxHeartbeats 4000000
namespace K19
open PySem Pv
theorem g_5 : (subs (allE 5)).all (gOk 5) = true := by decide +kernel
end K19

set_option Elab.async false
set_option linter.all false
set_option maxRecDepth 100000
set_option maxHeartbeats 4000000
namespace K19
open PySem Pv
theorem filter_subs {α : Type} (c : α → Bool) : ∀ l : List α, l.filter c ∈ subs l
  | [] => by simp [subs]
  | x :: r => by
    have ih := filter_subs c r
    unfold subs
    rw [List.filter_cons, List.mem_append]
    split
    · exact .inr (List.mem_map_of_mem ih)
    · exact .inl ih
def okPs (n : Nat) (ps : List (Nat × Nat)) : Prop := ∀ p ∈ ps, p.1 < p.2 ∧ p.2 < n
def canon (n : Nat) (ps : List (Nat × Nat)) : List (Nat × Nat) := (allE n).filter fun p => decide (p ∈ ps)
theorem allE_mem {n : Nat} {p : Nat × Nat} : p ∈ allE n ↔ p.1 < p.2 ∧ p.2 < n := by
  unfold allE
  rw [List.mem_flatMap]
  constructor
  · rintro ⟨a, ha, h⟩
    obtain ⟨d, hd, rfl⟩ := List.mem_map.mp h
    have := List.mem_range.mp ha
    have := List.mem_range.mp hd
    simp only
    omega
  · rintro ⟨h1, h2⟩
    refine ⟨p.1, List.mem_range.mpr (by omega), List.mem_map.mpr ⟨p.2 - p.1 - 1, List.mem_range.mpr (by omega), ?_⟩⟩
    obtain ⟨a, b⟩ := p
    simp only [Prod.mk.injEq, true_and]
    simp only at h1
    omega
theorem canon_mem {n : Nat} {ps : List (Nat × Nat)} (h : okPs n ps) (p : Nat × Nat) : p ∈ ps ↔ p ∈ canon n ps := by
  unfold canon
  rw [List.mem_filter, allE_mem, decide_eq_true_eq]
  exact ⟨fun m => ⟨h p m, m⟩, fun m => m.2⟩
theorem g_all (hg5 : (subs (allE 5)).all (gOk 5) = true) {n : Nat} (h1 : 1 ≤ n) (h5 : n ≤ 5) {E : List (Nat × Nat)} (hE : E ∈ subs (allE n)) : gOk n E = true := by
  have : n = 1 ∨ n = 2 ∨ n = 3 ∨ n = 4 ∨ n = 5 := by omega
  rcases this with rfl | rfl | rfl | rfl | rfl
  · exact List.all_eq_true.mp g_1 E hE
  · exact List.all_eq_true.mp g_2 E hE
  · exact List.all_eq_true.mp g_3 E hE
  · exact List.all_eq_true.mp g_4 E hE
  · exact List.all_eq_true.mp hg5 E hE
theorem laf_bad {n : Nat} {ps : List (Nat × Nat)} {t : List (List Nat)} (h : lafM n ps t = true) : t.any bad2 = false := by
  cases hb : t.any bad2 with
  | false => rfl
  | true =>
    unfold lafM at h
    rw [hb] at h
    simp at h
theorem has_lit {n : Nat} (h1 : 1 ≤ n) (h5 : n ≤ 5) (ps : List (Nat × Nat)) : hasM n ps = (rowsLit n).any (lafM n ps) := by
  have e := of_decide_eq_true (List.all_eq_true.mp rows_lit (n - 1) (List.mem_range.mpr (by omega)))
  rw [show n - 1 + 1 = n by omega] at e
  rw [← e]
  unfold hasM
  rw [Bool.eq_iff_iff, List.any_eq_true, List.any_eq_true]
  constructor
  · rintro ⟨t, a, b⟩
    exact ⟨t, List.mem_filter.mpr ⟨a, by rw [laf_bad b]; rfl⟩, b⟩
  · rintro ⟨t, a, b⟩
    exact ⟨t, (List.mem_filter.mp a).1, b⟩
theorem g_facts (hg5 : (subs (allE 5)).all (gOk 5) = true) {n : Nat} {ps : List (Nat × Nat)} (h1 : 1 ≤ n) (h5 : n ≤ 5) (h : okPs n ps) :
    wornM 100 (pof (singles n) ps) = some (!hasM n ps) ∧ (∃ o, fsM 100 n ps = some o ∧ o.isNone = (!hasM n ps) ∧ ∀ g, o = some g → lafM n ps g = true ∧ g.flatten.length ≤ 5) ∧ (hasM n ps = false → ∀ i, wornM 100 (pof (singles n) (ps.take i ++ ps.drop (i + 1))) = some true) := by
  have cm := canon_mem h
  have hk := g_all hg5 h1 h5 (filter_subs (fun p => decide (p ∈ ps)) (allE n))
  unfold gOk at hk
  change _ = _ at hk
  rw [← has_lit h1 h5] at hk
  rw [show (allE n).filter (fun p => decide (p ∈ ps)) = canon n ps from rfl, ← has_set cm n] at hk
  rw [Bool.and_eq_true, Bool.and_eq_true, decide_eq_true_eq] at hk
  obtain ⟨⟨a, b⟩, c⟩ := hk
  have ap := a
  rw [← pof_set cm] at a
  refine ⟨a, ?_, ?_⟩
  · rw [← fs_set cm] at b
    cases e : fsM 100 n ps with
    | none => rw [e] at b; cases b
    | some o =>
      rw [e] at b
      refine ⟨o, rfl, ?_⟩
      cases o with
      | none =>
        simp only [] at b
        exact ⟨by rw [b]; rfl, fun g hg => by cases hg⟩
      | some g =>
        simp only [Bool.and_eq_true, decide_eq_true_eq] at b
        refine ⟨by rw [b.1]; rfl, fun g' hg => ?_⟩
        cases hg
        rw [laf_set cm]
        exact b.2
  · intro hf i
    rw [hf, Bool.false_or, List.all_eq_true] at c
    by_cases hi : i < ps.length
    · have sp : ∀ p, p ∈ ps ↔ p ∈ ps.take i ++ ps.drop (i + 1) ∨ p = ps[i] := fun p => by
        rw [List.mem_append]
        conv => lhs; rw [← List.take_append_drop i ps, List.drop_eq_getElem_cons hi]
        rw [List.mem_append, List.mem_cons]
        constructor
        · rintro (x | x | x) <;> simp [x]
        · rintro ((x | x) | x) <;> simp [x]
      by_cases hm : ps[i] ∈ ps.take i ++ ps.drop (i + 1)
      · have s1 : ∀ p, p ∈ ps.take i ++ ps.drop (i + 1) ↔ p ∈ canon n ps := fun p => by
          rw [← cm p, sp p]
          exact ⟨.inl, fun z => z.elim id fun e => by rw [e]; exact hm⟩
        rw [pof_set s1, ap, hf]; rfl
      · have s1 : ∀ p, p ∈ ps.take i ++ ps.drop (i + 1) ↔ p ∈ (canon n ps).filter fun x => !decide (x = ps[i]) := fun p => by
          rw [List.mem_filter, ← cm p, sp p]
          constructor
          · intro z
            refine ⟨.inl z, ?_⟩
            rw [decide_eq_false (fun e => hm (by rw [← e]; exact z))]; rfl
          · rintro ⟨z, e⟩
            rcases z with z | z
            · exact z
            · rw [decide_eq_true z] at e; cases e
        rw [pof_set s1]
        exact of_decide_eq_true (c ps[i] ((cm _).mp (List.getElem_mem hi)))
    · rw [List.take_of_length_le (by omega), List.drop_of_length_le (by omega), List.append_nil, a, hf]; rfl
end K19

set_option Elab.async false
set_option linter.all false
set_option maxRecDepth 100000
set_option maxHeartbeats 4000000
namespace K19
open PySem Pv
/-! ### the second loop of law -/
theorem o_catPs (l m : List (Nat × Nat)) : op2 .add (ePs l) (ePs m) = if l.length + m.length ≤ line then some (ePs (l ++ m)) else none := by
  show (if (l.map eP).length + (m.map eP).length ≤ line then some (PyData.list (l.map eP ++ m.map eP)) else none) = _
  rw [List.length_map, List.length_map, ← List.map_append]; rfl
theorem form_ne {kind n : Nat} (hk : kind < 8) (h1 : 2 ≤ n) (h2 : n < 8) (h4 : kind = 4 → n % 2 = 0) : (formN kind n).1 ≠ [] := by
  have h := List.all_eq_true.mp (List.all_eq_true.mp heads_ok kind (List.mem_range.mpr hk)) (n - 2) (List.mem_range.mpr (by omega))
  rw [show n - 2 + 2 = n by omega] at h
  intro e
  rw [e] at h
  by_cases h4' : kind = 4
  · have := h4 h4'
    have : ¬ (n - 2) % 2 = 1 := by omega
    simp [this] at h
  · simp [h4'] at h
theorem kind_ok {kind n var : Nat} (hk : kind < 8) (h1 : 2 ≤ n) (h2 : n < 8) (h4 : kind = 4 → n % 2 = 0) (hv : var < 4) : kindOk kind n var = true := by
  have h := List.all_eq_true.mp (List.all_eq_true.mp (List.all_eq_true.mp kinds_ok kind (List.mem_range.mpr hk)) (n - 2) (List.mem_range.mpr (by omega))) var (List.mem_range.mpr hv)
  rw [show n - 2 + 2 = n by omega] at h
  by_cases h4' : kind = 4
  · have := h4 h4'
    have : ¬ (n - 2) % 2 = 1 := by omega
    simpa [this] using h
  · simpa [h4'] using h
theorem ok_iff {n : Nat} {ps : List (Nat × Nat)} (h : okLines n ps = true) : okPs n ps := fun p hp => by
  have := List.all_eq_true.mp h p hp
  rw [Bool.and_eq_true, decide_eq_true_eq, decide_eq_true_eq] at this
  exact this
def en2 (ns : List Int) (ds : List Nat) : En := [.val (scriptD ns), .val (eL ds), .no, .no, .no, .no, .no, .no, .no, .no, .no, .no, .no, .no, .no, .no, .no, .no]
def n0 (ds : List Nat) (kind : Nat) : Nat := 2 + mixN ds (140 + kind) 6
def nK (ds : List Nat) (kind : Nat) : Nat := if kind = 4 then 2 * (n0 ds kind / 2) else n0 ds kind
theorem nK_ok (ds : List Nat) (kind : Nat) : 2 ≤ nK ds kind ∧ nK ds kind < 8 ∧ (kind = 4 → nK ds kind % 2 = 0) := by
  have := mix_lt ds (140 + kind) (many := 6) (by decide)
  unfold nK n0
  split <;> omega
theorem at4 (a b c d : D) (v : Nat) (h : v < 4) : L2.atI [a, b, c, d] (v : Int) = some ([a, b, c, d].getD v a) := by
  have : v = 0 ∨ v = 1 ∨ v = 2 ∨ v = 3 := by omega
  rcases this with rfl | rfl | rfl | rfl <;> rfl
theorem lens_ok : ((List.range 8).all fun kind => (List.range 6).all fun n => decide ((formN kind (n + 2)).1.length ≤ 30)) = true := by decide +kernel
theorem form_len {kind n : Nat} (hk : kind < 8) (h1 : 2 ≤ n) (h2 : n < 8) : (formN kind n).1.length ≤ 30 := by
  have h := List.all_eq_true.mp (List.all_eq_true.mp lens_ok kind (List.mem_range.mpr hk)) (n - 2) (List.mem_range.mpr (by omega))
  rw [show n - 2 + 2 = n by omega] at h
  exact of_decide_eq_true h
def pick4 (n : Nat) (p0 : Nat × Nat) (rest : List (Nat × Nat)) (v : Nat) : List (Nat × Nat) := [p0 :: rest, (p0 :: rest) ++ [p0], (p0 :: rest) ++ [(0, n)], [(0, n), (p0.2, n)] ++ rest].getD v []
theorem at_pick (n : Nat) (p0 : Nat × Nat) (rest : List (Nat × Nat)) (v : Nat) (h : v < 4) : L2.atI [ePs (p0 :: rest), ePs ((p0 :: rest) ++ [p0]), ePs ((p0 :: rest) ++ [(0, n)]), ePs ([(0, n), (p0.2, n)] ++ rest)] (v : Int) = some (ePs (pick4 n p0 rest v)) := by
  have : v = 0 ∨ v = 1 ∨ v = 2 ∨ v = 3 := by omega
  rcases this with rfl | rfl | rfl | rfl <;> rfl
theorem r_kind (ns : List Int) (ds : List Nat) (hd : ∀ d ∈ ds, d < 65536) (hl : ds.length < 100000) (kind : Nat) (hk : kind < 8) : turnE [15, 4, 5, 16, 17, 8] ((bindPat (.nm 15) (eN kind) (en2 ns ds)).bind fun ρ1 => exs (CG 100 5) 100 lawB2 ρ1) = some (en2 ns ds) := by
  unfold en2 lawB2
  obtain ⟨a1, a2, a3⟩ := nK_ok ds kind
  have m1 := r_law_mix 100 4 ds (140 + kind) 6 hd hl (by omega) (by decide) (by decide)
  have m2 := r_law_mix 100 4 ds (150 + kind) 4 hd hl (by omega) (by decide) (by decide)
  have lf := r_law_form kind (nK ds kind) hk a1 a2
  have hv := mix_lt ds (150 + kind) (many := 4) (by decide)
  have fne := form_ne hk a1 a2 a3
  have kok := kind_ok hk a1 a2 a3 hv
  have e1 : (140 : Int) + (kind : Int) = ((140 + kind : Nat) : Int) := rfl
  have e2 : (150 : Int) + (kind : Int) = ((150 + kind : Nat) : Int) := rfl
  have e3 : (6 : Int) = ((6 : Nat) : Int) := rfl
  have e4 : (4 : Int) = ((4 : Nat) : Int) := rfl
  revert m1 m2 lf
  show (cal (tabOf fds) 100 5 "_law_mix" [eL ds, .int ((140 + kind : Nat) : Int), .int 6] = _) → (cal (tabOf fds) 100 5 "_law_mix" [eL ds, .int ((150 + kind : Nat) : Int), .int 4] = _) → _
  intro m1 m2 lf
  have ml := mix_lt ds (140 + kind) (many := 6) (by decide)
  have sel : L2.atI [PyData.int (2 + (mixN ds (140 + kind) 6 : Nat)), PyData.int (2 * ((2 + (mixN ds (140 + kind) 6 : Nat)) / 2))] (if decide ((kind : Int) = 4) = true then 1 else 0) = some (PyData.int (nK ds kind : Nat)) := by
    unfold nK n0
    by_cases h : kind = 4
    · rw [if_pos (decide_eq_true (by omega)), if_pos h]; rfl
    · rw [if_neg (by simpa using (show ¬ (kind : Int) = 4 by omega)), if_neg h]; rfl
  simp (implicitDefEqProofs := false) only [turnE_nx, turnE_cnt, rd_0, rd_o, rd_of, rd_s, gO_0, gO_s, gO2_0, gO2_s, bp_nm, bp_tp, bps_nil, bps_cons, bp_eP, v_var, v_int, v_bool, v_str, v_none, v_glb, v_op, v_ch, v_ch3, v_neg, v_not, v_and, v_or, v_b1, v_ife, v_tup, v_lst, v_idx, v_bi, v_call, v_callB, v_rev, v_cut, v_p0, v_p1, vs_nil, vs_cons, f_0, f_1, i_s, i_r1, i_r2, i_e, i_z, v_lc, v_lc2, v_ssc, v_ssc2, v_sst, v_lset, x_nil, x_cons, t_nx, t_brk, t_cnt, t_ret, x_asgF, x_asgT, x_asgp, x_par, sets_nil, sets_cons, x_app, x_ext, x_exp, x_own2, x_newT, x_ret, x_ite, x_for, x_whl, x_frz, fz_o, fz_o2, fz_v, e_rF, e_rT, e_nF, sq_l, sq_t, sx_l, sx_t, sl_l, sq_L, sx_L, sl_L, sq_Ps, sx_Ps, sl_Ps, sq_G, sx_G, sl_G, sx_P, ai, ab, at0, at1, p_add, p_sub, p_lt, p_le, p_gt, p_ge, p_isB, p_isnB, p_isN, p_isnN, y_len, y_lenT, y_lenL, y_lenPs, y_lenG, y_int, y_intB, y_abs, y_min2, y_max2, y_gcd, y_list, y_listL, y_listPs, y_all, wipeE, frE, bib, Option.bind_some, Option.map_some, List.getD_cons_zero, List.getD_cons_succ, List.set_cons_zero, List.set_cons_succ, List.map_cons, List.map_nil, List.length_cons, List.length_nil, List.replicate, List.cons_append, List.nil_append, if_true, if_false, Bool.false_eq_true, Nat.reduceSub, Nat.reduceAdd, Nat.reduceLeDiff, eN, e1, e2, m1, m2]
  rw [p_fdiv (by decide) (by decide)]
  simp (implicitDefEqProofs := false) only [turnE_nx, turnE_cnt, rd_0, rd_o, rd_of, rd_s, gO_0, gO_s, gO2_0, gO2_s, bp_nm, bp_tp, bps_nil, bps_cons, bp_eP, v_var, v_int, v_bool, v_str, v_none, v_glb, v_op, v_ch, v_ch3, v_neg, v_not, v_and, v_or, v_b1, v_ife, v_tup, v_lst, v_idx, v_bi, v_call, v_callB, v_rev, v_cut, v_p0, v_p1, vs_nil, vs_cons, f_0, f_1, i_s, i_r1, i_r2, i_e, i_z, v_lc, v_lc2, v_ssc, v_ssc2, v_sst, v_lset, x_nil, x_cons, t_nx, t_brk, t_cnt, t_ret, x_asgF, x_asgT, x_asgp, x_par, sets_nil, sets_cons, x_app, x_ext, x_exp, x_own2, x_newT, x_ret, x_ite, x_for, x_whl, x_frz, fz_o, fz_o2, fz_v, e_rF, e_rT, e_nF, sq_l, sq_t, sx_l, sx_t, sl_l, sq_L, sx_L, sl_L, sq_Ps, sx_Ps, sl_Ps, sq_G, sx_G, sl_G, sx_P, ai, ab, at0, at1, p_add, p_sub, p_lt, p_le, p_gt, p_ge, p_isB, p_isnB, p_isN, p_isnN, y_len, y_lenT, y_lenL, y_lenPs, y_lenG, y_int, y_intB, y_abs, y_min2, y_max2, y_gcd, y_list, y_listL, y_listPs, y_all, wipeE, frE, bib, Option.bind_some, Option.map_some, List.getD_cons_zero, List.getD_cons_succ, List.set_cons_zero, List.set_cons_succ, List.map_cons, List.map_nil, List.length_cons, List.length_nil, List.replicate, List.cons_append, List.nil_append, if_true, if_false, Bool.false_eq_true, Nat.reduceSub, Nat.reduceAdd, Nat.reduceLeDiff]
  rw [p_mul (by decide) (by omega)]
  simp (implicitDefEqProofs := false) only [turnE_nx, turnE_cnt, rd_0, rd_o, rd_of, rd_s, gO_0, gO_s, gO2_0, gO2_s, bp_nm, bp_tp, bps_nil, bps_cons, bp_eP, v_var, v_int, v_bool, v_str, v_none, v_glb, v_op, v_ch, v_ch3, v_neg, v_not, v_and, v_or, v_b1, v_ife, v_tup, v_lst, v_idx, v_bi, v_call, v_callB, v_rev, v_cut, v_p0, v_p1, vs_nil, vs_cons, f_0, f_1, i_s, i_r1, i_r2, i_e, i_z, v_lc, v_lc2, v_ssc, v_ssc2, v_sst, v_lset, x_nil, x_cons, t_nx, t_brk, t_cnt, t_ret, x_asgF, x_asgT, x_asgp, x_par, sets_nil, sets_cons, x_app, x_ext, x_exp, x_own2, x_newT, x_ret, x_ite, x_for, x_whl, x_frz, fz_o, fz_o2, fz_v, e_rF, e_rT, e_nF, sq_l, sq_t, sx_l, sx_t, sl_l, sq_L, sx_L, sl_L, sq_Ps, sx_Ps, sl_Ps, sq_G, sx_G, sl_G, sx_P, ai, ab, at0, at1, p_add, p_sub, p_lt, p_le, p_gt, p_ge, p_isB, p_isnB, p_isN, p_isnN, y_len, y_lenT, y_lenL, y_lenPs, y_lenG, y_int, y_intB, y_abs, y_min2, y_max2, y_gcd, y_list, y_listL, y_listPs, y_all, wipeE, frE, bib, Option.bind_some, Option.map_some, List.getD_cons_zero, List.getD_cons_succ, List.set_cons_zero, List.set_cons_succ, List.map_cons, List.map_nil, List.length_cons, List.length_nil, List.replicate, List.cons_append, List.nil_append, if_true, if_false, Bool.false_eq_true, Nat.reduceSub, Nat.reduceAdd, Nat.reduceLeDiff, if_le (show 2 < 1000000 by decide), o_eqI, y_intB, sel, lf]
  have fl := form_len hk a1 a2
  generalize hf : formN kind (nK ds kind) = F at fl fne ⊢
  obtain ⟨P, pl⟩ := F
  simp only at fl fne ⊢
  cases P with
  | nil => exact absurd rfl fne
  | cons p0 rest =>
    rw [List.length_cons] at fl
    have c1 : cutD ((p0 :: rest).map eP) none (some 1) = [p0].map eP := cut_to eP (p0 :: rest) 1
    have c2 : cutD ((p0 :: rest).map eP) (some 1) none = rest.map eP := cut_from eP (p0 :: rest) 1
    have q1 : ∀ l m : List (Nat × Nat), op2 .add (ePs l) (.list (m.map eP)) = if l.length + m.length ≤ line then some (ePs (l ++ m)) else none := o_catPs
    have q2 : op2 .add (ePs (p0 :: rest)) (.list [.tuple [.int 0, .int (nK ds kind : Nat)]]) = if (p0 :: rest).length + 1 ≤ line then some (ePs ((p0 :: rest) ++ [(0, nK ds kind)])) else none := o_catPs _ [(0, nK ds kind)]
    have q3 : op2 .add (.list [.tuple [.int 0, .int (nK ds kind : Nat)], .tuple [.int (p0.2 : Nat), .int (nK ds kind : Nat)]]) (.list (rest.map eP)) = if 2 + rest.length ≤ line then some (ePs ([(0, nK ds kind), (p0.2, nK ds kind)] ++ rest)) else none := o_catPs [(0, nK ds kind), (p0.2, nK ds kind)] rest
    have h0 : L2.atI ((p0 :: rest).map eP) 0 = some (eP p0) := at_map eP (p0 :: rest) 0 rfl
    have ap := at_pick (nK ds kind) p0 rest _ hv
    rw [c1, c2, h0]
    have q1' : op2 .add (ePs (p0 :: rest)) (.list [eP p0]) = if (p0 :: rest).length + 1 ≤ line then some (ePs ((p0 :: rest) ++ [p0])) else none := o_catPs _ [p0]
    simp (implicitDefEqProofs := false) only [turnE_nx, turnE_cnt, rd_0, rd_o, rd_of, rd_s, gO_0, gO_s, gO2_0, gO2_s, bp_nm, bp_tp, bps_nil, bps_cons, bp_eP, v_var, v_int, v_bool, v_str, v_none, v_glb, v_op, v_ch, v_ch3, v_neg, v_not, v_and, v_or, v_b1, v_ife, v_tup, v_lst, v_idx, v_bi, v_call, v_callB, v_rev, v_cut, v_p0, v_p1, vs_nil, vs_cons, f_0, f_1, i_s, i_r1, i_r2, i_e, i_z, v_lc, v_lc2, v_ssc, v_ssc2, v_sst, v_lset, x_nil, x_cons, t_nx, t_brk, t_cnt, t_ret, x_asgF, x_asgT, x_asgp, x_par, sets_nil, sets_cons, x_app, x_ext, x_exp, x_own2, x_newT, x_ret, x_ite, x_for, x_whl, x_frz, fz_o, fz_o2, fz_v, e_rF, e_rT, e_nF, sq_l, sq_t, sx_l, sx_t, sl_l, sq_L, sx_L, sl_L, sq_Ps, sx_Ps, sl_Ps, sq_G, sx_G, sl_G, sx_P, ai, ab, at0, at1, p_add, p_sub, p_lt, p_le, p_gt, p_ge, p_isB, p_isnB, p_isN, p_isnN, y_len, y_lenT, y_lenL, y_lenPs, y_lenG, y_int, y_intB, y_abs, y_min2, y_max2, y_gcd, y_list, y_listL, y_listPs, y_all, wipeE, frE, bib, Option.bind_some, Option.map_some, List.getD_cons_zero, List.getD_cons_succ, List.set_cons_zero, List.set_cons_succ, List.map_cons, List.map_nil, List.length_cons, List.length_nil, List.replicate, List.cons_append, List.nil_append, if_true, if_false, Bool.false_eq_true, Nat.reduceSub, Nat.reduceAdd, Nat.reduceLeDiff, q1', q2, q3, sx_P, if_le (show 1 < 1000000 by decide), if_le (show 2 < 1000000 by decide), if_le (show 4 < 1000000 by decide), if_le (show rest.length + 1 + 1 < 1000000 by omega), if_le (show 2 + rest.length < 1000000 by omega), e2, m2]
    have ap2 : L2.atI [ePs (p0 :: rest), ePs (p0 :: (rest ++ [p0])), ePs (p0 :: (rest ++ [(0, nK ds kind)])), ePs ((0, nK ds kind) :: (p0.2, nK ds kind) :: rest)] ((mixN ds (150 + kind) 4 : Nat) : Int) = _ := ap
    rw [ap2]
    have hW : wideN kind (nK ds kind) (mixN ds (150 + kind) 4) = if p0.1 ≠ 0 then p0 :: rest else pick4 (nK ds kind) p0 rest (mixN ds (150 + kind) 4) := by
      unfold wideN
      rw [hf]
      by_cases hz : p0.1 ≠ 0
      · rw [if_pos hz]; exact if_pos hz
      · rw [if_neg hz]
        refine (if_neg hz).trans ?_
        have : mixN ds (150 + kind) 4 = 0 ∨ mixN ds (150 + kind) 4 = 1 ∨ mixN ds (150 + kind) 4 = 2 ∨ mixN ds (150 + kind) 4 = 3 := by omega
        rcases this with e | e | e | e <;> rw [e] <;> rfl
    have wl : (wideN kind (nK ds kind) (mixN ds (150 + kind) 4)).length < 100 := by
      rw [hW]
      split
      · rw [List.length_cons]; omega
      · have : mixN ds (150 + kind) 4 = 0 ∨ mixN ds (150 + kind) 4 = 1 ∨ mixN ds (150 + kind) 4 = 2 ∨ mixN ds (150 + kind) 4 = 3 := by omega
        rcases this with e | e | e | e <;> rw [e] <;> simp [pick4] <;> omega
    unfold kindOk at kok
    rw [hf] at kok
    simp only [Bool.or_eq_true, Bool.and_eq_true, decide_eq_true_eq] at kok
    have z0 : decide ((p0.1 : Int) = 0) = decide (p0.1 = 0) := decide_eq_decide.mpr (by omega)
    generalize wideN kind (nK ds kind) (mixN ds (150 + kind) 4) = W at hW wl kok
    have rw1 : cal (tabOf fds) 100 5 "_law_whole" [.int ((nK ds kind + 1 : Nat) : Int), ePs W] = some (gridD (nK ds kind + 1) W) := r_whole 100 4 (nK ds kind + 1) W (by omega)
    have n1 : ((nK ds kind : Nat) : Int) + 1 = ((nK ds kind + 1 : Nat) : Int) := rfl
    simp (implicitDefEqProofs := false) only [turnE_nx, turnE_cnt, rd_0, rd_o, rd_of, rd_s, gO_0, gO_s, gO2_0, gO2_s, bp_nm, bp_tp, bps_nil, bps_cons, bp_eP, v_var, v_int, v_bool, v_str, v_none, v_glb, v_op, v_ch, v_ch3, v_neg, v_not, v_and, v_or, v_b1, v_ife, v_tup, v_lst, v_idx, v_bi, v_call, v_callB, v_rev, v_cut, v_p0, v_p1, vs_nil, vs_cons, f_0, f_1, i_s, i_r1, i_r2, i_e, i_z, v_lc, v_lc2, v_ssc, v_ssc2, v_sst, v_lset, x_nil, x_cons, t_nx, t_brk, t_cnt, t_ret, x_asgF, x_asgT, x_asgp, x_par, sets_nil, sets_cons, x_app, x_ext, x_exp, x_own2, x_newT, x_ret, x_ite, x_for, x_whl, x_frz, fz_o, fz_o2, fz_v, e_rF, e_rT, e_nF, sq_l, sq_t, sx_l, sx_t, sl_l, sq_L, sx_L, sl_L, sq_Ps, sx_Ps, sl_Ps, sq_G, sx_G, sl_G, sx_P, ai, ab, at0, at1, p_add, p_sub, p_lt, p_le, p_gt, p_ge, p_isB, p_isnB, p_isN, p_isnN, y_len, y_lenT, y_lenL, y_lenPs, y_lenG, y_int, y_intB, y_abs, y_min2, y_max2, y_gcd, y_list, y_listL, y_listPs, y_all, wipeE, frE, bib, Option.bind_some, Option.map_some, List.getD_cons_zero, List.getD_cons_succ, List.set_cons_zero, List.set_cons_succ, List.map_cons, List.map_nil, List.length_cons, List.length_nil, List.replicate, List.cons_append, List.nil_append, if_true, if_false, Bool.false_eq_true, Nat.reduceSub, Nat.reduceAdd, Nat.reduceLeDiff, h0, sx_P, o_neI, z0]
    by_cases hz : p0.1 = 0
    · rw [if_neg (by simpa using hz)] at hW
      rw [← hW]
      simp (implicitDefEqProofs := false) only [turnE_nx, turnE_cnt, rd_0, rd_o, rd_of, rd_s, gO_0, gO_s, gO2_0, gO2_s, bp_nm, bp_tp, bps_nil, bps_cons, bp_eP, v_var, v_int, v_bool, v_str, v_none, v_glb, v_op, v_ch, v_ch3, v_neg, v_not, v_and, v_or, v_b1, v_ife, v_tup, v_lst, v_idx, v_bi, v_call, v_callB, v_rev, v_cut, v_p0, v_p1, vs_nil, vs_cons, f_0, f_1, i_s, i_r1, i_r2, i_e, i_z, v_lc, v_lc2, v_ssc, v_ssc2, v_sst, v_lset, x_nil, x_cons, t_nx, t_brk, t_cnt, t_ret, x_asgF, x_asgT, x_asgp, x_par, sets_nil, sets_cons, x_app, x_ext, x_exp, x_own2, x_newT, x_ret, x_ite, x_for, x_whl, x_frz, fz_o, fz_o2, fz_v, e_rF, e_rT, e_nF, sq_l, sq_t, sx_l, sx_t, sl_l, sq_L, sx_L, sl_L, sq_Ps, sx_Ps, sl_Ps, sq_G, sx_G, sl_G, sx_P, ai, ab, at0, at1, p_add, p_sub, p_lt, p_le, p_gt, p_ge, p_isB, p_isnB, p_isN, p_isnN, y_len, y_lenT, y_lenL, y_lenPs, y_lenG, y_int, y_intB, y_abs, y_min2, y_max2, y_gcd, y_list, y_listL, y_listPs, y_all, wipeE, frE, bib, Option.bind_some, Option.map_some, List.getD_cons_zero, List.getD_cons_succ, List.set_cons_zero, List.set_cons_succ, List.map_cons, List.map_nil, List.length_cons, List.length_nil, List.replicate, List.cons_append, List.nil_append, if_true, if_false, Bool.false_eq_true, Nat.reduceSub, Nat.reduceAdd, Nat.reduceLeDiff, decide_eq_true hz, Bool.not_true, n1, rw1]
      by_cases hlen : W.length < 15
      · have kk := kok.resolve_left (by omega)
        obtain ⟨⟨k1, k2⟩, k3⟩ := kk
        have ps := ok_iff k1
        have ip : cal (tabOf fds) 100 5 "is_plain" [gridD (nK ds kind + 1) W] = some (.bool pl) := r_is_plain 100 1 (nK ds kind + 1) W (by omega) (by omega) (by omega) ps _ k2
        cases ho : fsM 100 (nK ds kind + 1) W with
        | none => rw [ho] at k3; cases k3
        | some o =>
          rw [ho] at k3
          have fs : cal (tabOf fds) 100 5 "four_sets" [gridD (nK ds kind + 1) W] = some (oG o) := r_four_sets 100 1 (nK ds kind + 1) W (by omega) (by omega) (by omega) ps o ho
          have k3 : (o.isNone == pl) = true := k3
          have nn : isNoneD (oG o) = pl := by
            rw [← eq_of_beq k3]
            cases o <;> rfl
          simp (implicitDefEqProofs := false) only [turnE_nx, turnE_cnt, rd_0, rd_o, rd_of, rd_s, gO_0, gO_s, gO2_0, gO2_s, bp_nm, bp_tp, bps_nil, bps_cons, bp_eP, v_var, v_int, v_bool, v_str, v_none, v_glb, v_op, v_ch, v_ch3, v_neg, v_not, v_and, v_or, v_b1, v_ife, v_tup, v_lst, v_idx, v_bi, v_call, v_callB, v_rev, v_cut, v_p0, v_p1, vs_nil, vs_cons, f_0, f_1, i_s, i_r1, i_r2, i_e, i_z, v_lc, v_lc2, v_ssc, v_ssc2, v_sst, v_lset, x_nil, x_cons, t_nx, t_brk, t_cnt, t_ret, x_asgF, x_asgT, x_asgp, x_par, sets_nil, sets_cons, x_app, x_ext, x_exp, x_own2, x_newT, x_ret, x_ite, x_for, x_whl, x_frz, fz_o, fz_o2, fz_v, e_rF, e_rT, e_nF, sq_l, sq_t, sx_l, sx_t, sl_l, sq_L, sx_L, sl_L, sq_Ps, sx_Ps, sl_Ps, sq_G, sx_G, sl_G, sx_P, ai, ab, at0, at1, p_add, p_sub, p_lt, p_le, p_gt, p_ge, p_isB, p_isnB, p_isN, p_isnN, y_len, y_lenT, y_lenL, y_lenPs, y_lenG, y_int, y_intB, y_abs, y_min2, y_max2, y_gcd, y_list, y_listL, y_listPs, y_all, wipeE, frE, bib, Option.bind_some, Option.map_some, List.getD_cons_zero, List.getD_cons_succ, List.set_cons_zero, List.set_cons_succ, List.map_cons, List.map_nil, List.length_cons, List.length_nil, List.replicate, List.cons_append, List.nil_append, if_true, if_false, Bool.false_eq_true, Nat.reduceSub, Nat.reduceAdd, Nat.reduceLeDiff, decide_eq_true (show (W.length : Int) < 15 by omega), ip, fs, o_neB, nn, decide_true, Bool.not_true]
      · simp (implicitDefEqProofs := false) only [turnE_nx, turnE_cnt, rd_0, rd_o, rd_of, rd_s, gO_0, gO_s, gO2_0, gO2_s, bp_nm, bp_tp, bps_nil, bps_cons, bp_eP, v_var, v_int, v_bool, v_str, v_none, v_glb, v_op, v_ch, v_ch3, v_neg, v_not, v_and, v_or, v_b1, v_ife, v_tup, v_lst, v_idx, v_bi, v_call, v_callB, v_rev, v_cut, v_p0, v_p1, vs_nil, vs_cons, f_0, f_1, i_s, i_r1, i_r2, i_e, i_z, v_lc, v_lc2, v_ssc, v_ssc2, v_sst, v_lset, x_nil, x_cons, t_nx, t_brk, t_cnt, t_ret, x_asgF, x_asgT, x_asgp, x_par, sets_nil, sets_cons, x_app, x_ext, x_exp, x_own2, x_newT, x_ret, x_ite, x_for, x_whl, x_frz, fz_o, fz_o2, fz_v, e_rF, e_rT, e_nF, sq_l, sq_t, sx_l, sx_t, sl_l, sq_L, sx_L, sl_L, sq_Ps, sx_Ps, sl_Ps, sq_G, sx_G, sl_G, sx_P, ai, ab, at0, at1, p_add, p_sub, p_lt, p_le, p_gt, p_ge, p_isB, p_isnB, p_isN, p_isnN, y_len, y_lenT, y_lenL, y_lenPs, y_lenG, y_int, y_intB, y_abs, y_min2, y_max2, y_gcd, y_list, y_listL, y_listPs, y_all, wipeE, frE, bib, Option.bind_some, Option.map_some, List.getD_cons_zero, List.getD_cons_succ, List.set_cons_zero, List.set_cons_succ, List.map_cons, List.map_nil, List.length_cons, List.length_nil, List.replicate, List.cons_append, List.nil_append, if_true, if_false, Bool.false_eq_true, Nat.reduceSub, Nat.reduceAdd, Nat.reduceLeDiff, decide_eq_false (show ¬ (W.length : Int) < 15 by omega)]
    · rw [if_pos hz] at hW
      rw [← hW] at *
      simp (implicitDefEqProofs := false) only [turnE_nx, turnE_cnt, rd_0, rd_o, rd_of, rd_s, gO_0, gO_s, gO2_0, gO2_s, bp_nm, bp_tp, bps_nil, bps_cons, bp_eP, v_var, v_int, v_bool, v_str, v_none, v_glb, v_op, v_ch, v_ch3, v_neg, v_not, v_and, v_or, v_b1, v_ife, v_tup, v_lst, v_idx, v_bi, v_call, v_callB, v_rev, v_cut, v_p0, v_p1, vs_nil, vs_cons, f_0, f_1, i_s, i_r1, i_r2, i_e, i_z, v_lc, v_lc2, v_ssc, v_ssc2, v_sst, v_lset, x_nil, x_cons, t_nx, t_brk, t_cnt, t_ret, x_asgF, x_asgT, x_asgp, x_par, sets_nil, sets_cons, x_app, x_ext, x_exp, x_own2, x_newT, x_ret, x_ite, x_for, x_whl, x_frz, fz_o, fz_o2, fz_v, e_rF, e_rT, e_nF, sq_l, sq_t, sx_l, sx_t, sl_l, sq_L, sx_L, sl_L, sq_Ps, sx_Ps, sl_Ps, sq_G, sx_G, sl_G, sx_P, ai, ab, at0, at1, p_add, p_sub, p_lt, p_le, p_gt, p_ge, p_isB, p_isnB, p_isN, p_isnN, y_len, y_lenT, y_lenL, y_lenPs, y_lenG, y_int, y_intB, y_abs, y_min2, y_max2, y_gcd, y_list, y_listL, y_listPs, y_all, wipeE, frE, bib, Option.bind_some, Option.map_some, List.getD_cons_zero, List.getD_cons_succ, List.set_cons_zero, List.set_cons_succ, List.map_cons, List.map_nil, List.length_cons, List.length_nil, List.replicate, List.cons_append, List.nil_append, if_true, if_false, Bool.false_eq_true, Nat.reduceSub, Nat.reduceAdd, Nat.reduceLeDiff, decide_eq_false hz, Bool.not_false, n1, rw1]
      by_cases hlen : W.length < 15
      · have kk := kok.resolve_left (by omega)
        obtain ⟨⟨k1, k2⟩, k3⟩ := kk
        have ps := ok_iff k1
        have ip : cal (tabOf fds) 100 5 "is_plain" [gridD (nK ds kind + 1) W] = some (.bool pl) := r_is_plain 100 1 (nK ds kind + 1) W (by omega) (by omega) (by omega) ps _ k2
        cases ho : fsM 100 (nK ds kind + 1) W with
        | none => rw [ho] at k3; cases k3
        | some o =>
          rw [ho] at k3
          have fs : cal (tabOf fds) 100 5 "four_sets" [gridD (nK ds kind + 1) W] = some (oG o) := r_four_sets 100 1 (nK ds kind + 1) W (by omega) (by omega) (by omega) ps o ho
          have k3 : (o.isNone == pl) = true := k3
          have nn : isNoneD (oG o) = pl := by
            rw [← eq_of_beq k3]
            cases o <;> rfl
          simp (implicitDefEqProofs := false) only [turnE_nx, turnE_cnt, rd_0, rd_o, rd_of, rd_s, gO_0, gO_s, gO2_0, gO2_s, bp_nm, bp_tp, bps_nil, bps_cons, bp_eP, v_var, v_int, v_bool, v_str, v_none, v_glb, v_op, v_ch, v_ch3, v_neg, v_not, v_and, v_or, v_b1, v_ife, v_tup, v_lst, v_idx, v_bi, v_call, v_callB, v_rev, v_cut, v_p0, v_p1, vs_nil, vs_cons, f_0, f_1, i_s, i_r1, i_r2, i_e, i_z, v_lc, v_lc2, v_ssc, v_ssc2, v_sst, v_lset, x_nil, x_cons, t_nx, t_brk, t_cnt, t_ret, x_asgF, x_asgT, x_asgp, x_par, sets_nil, sets_cons, x_app, x_ext, x_exp, x_own2, x_newT, x_ret, x_ite, x_for, x_whl, x_frz, fz_o, fz_o2, fz_v, e_rF, e_rT, e_nF, sq_l, sq_t, sx_l, sx_t, sl_l, sq_L, sx_L, sl_L, sq_Ps, sx_Ps, sl_Ps, sq_G, sx_G, sl_G, sx_P, ai, ab, at0, at1, p_add, p_sub, p_lt, p_le, p_gt, p_ge, p_isB, p_isnB, p_isN, p_isnN, y_len, y_lenT, y_lenL, y_lenPs, y_lenG, y_int, y_intB, y_abs, y_min2, y_max2, y_gcd, y_list, y_listL, y_listPs, y_all, wipeE, frE, bib, Option.bind_some, Option.map_some, List.getD_cons_zero, List.getD_cons_succ, List.set_cons_zero, List.set_cons_succ, List.map_cons, List.map_nil, List.length_cons, List.length_nil, List.replicate, List.cons_append, List.nil_append, if_true, if_false, Bool.false_eq_true, Nat.reduceSub, Nat.reduceAdd, Nat.reduceLeDiff, decide_eq_true (show (W.length : Int) < 15 by omega), ip, fs, o_neB, nn, decide_true, Bool.not_true]
      · simp (implicitDefEqProofs := false) only [turnE_nx, turnE_cnt, rd_0, rd_o, rd_of, rd_s, gO_0, gO_s, gO2_0, gO2_s, bp_nm, bp_tp, bps_nil, bps_cons, bp_eP, v_var, v_int, v_bool, v_str, v_none, v_glb, v_op, v_ch, v_ch3, v_neg, v_not, v_and, v_or, v_b1, v_ife, v_tup, v_lst, v_idx, v_bi, v_call, v_callB, v_rev, v_cut, v_p0, v_p1, vs_nil, vs_cons, f_0, f_1, i_s, i_r1, i_r2, i_e, i_z, v_lc, v_lc2, v_ssc, v_ssc2, v_sst, v_lset, x_nil, x_cons, t_nx, t_brk, t_cnt, t_ret, x_asgF, x_asgT, x_asgp, x_par, sets_nil, sets_cons, x_app, x_ext, x_exp, x_own2, x_newT, x_ret, x_ite, x_for, x_whl, x_frz, fz_o, fz_o2, fz_v, e_rF, e_rT, e_nF, sq_l, sq_t, sx_l, sx_t, sl_l, sq_L, sx_L, sl_L, sq_Ps, sx_Ps, sl_Ps, sq_G, sx_G, sl_G, sx_P, ai, ab, at0, at1, p_add, p_sub, p_lt, p_le, p_gt, p_ge, p_isB, p_isnB, p_isN, p_isnN, y_len, y_lenT, y_lenL, y_lenPs, y_lenG, y_int, y_intB, y_abs, y_min2, y_max2, y_gcd, y_list, y_listL, y_listPs, y_all, wipeE, frE, bib, Option.bind_some, Option.map_some, List.getD_cons_zero, List.getD_cons_succ, List.set_cons_zero, List.set_cons_succ, List.map_cons, List.map_nil, List.length_cons, List.length_nil, List.replicate, List.cons_append, List.nil_append, if_true, if_false, Bool.false_eq_true, Nat.reduceSub, Nat.reduceAdd, Nat.reduceLeDiff, decide_eq_false (show ¬ (W.length : Int) < 15 by omega)]
end K19

set_option Elab.async false
set_option linter.all false
set_option maxRecDepth 100000
set_option maxHeartbeats 4000000
namespace K19
open PySem Pv
/-! ### the first loop of law: the lines -/
def lineN (ds : List Nat) (k n t : Nat) : Nat × Nat := (mixN ds (k + 2 + 2 * t) (n - 1), mixN ds (k + 2 + 2 * t) (n - 1) + 1 + mixN ds (k + 3 + 2 * t) (n - 1 - mixN ds (k + 2 + 2 * t) (n - 1)))
theorem line_ok (ds : List Nat) (k t : Nat) {n : Nat} (h : 1 < n) : (lineN ds k n t).1 < (lineN ds k n t).2 ∧ (lineN ds k n t).2 < n := by
  have a := mix_lt ds (k + 2 + 2 * t) (many := n - 1) (by omega)
  have b := mix_lt ds (k + 3 + 2 * t) (many := n - 1 - mixN ds (k + 2 + 2 * t) (n - 1)) (by omega)
  unfold lineN
  simp only
  omega
theorem P_turn (ns : List Int) (ds : List Nat) (hd : ∀ d ∈ ds, d < 65536) (hl : ds.length < 100000) (k n t : Nat) (hk : k < 1000) (h1 : 1 < n) (h5 : n ≤ 5) (ht : t < 8) (ps : List (Nat × Nat)) (hp : ps.length < 100) (e2 : Ent) : turnE [6, 7] ((bindPat (.nm 6) (eN t) [.val (scriptD ns), .val (eL ds), e2, .val (.int k), .val (.int n), .own (ps.map eP), .no, .no, .no, .no, .no, .no, .no, .no, .no, .no, .no, .no]).bind fun ρ1 => exs (CG 100 5) 100 lawP ρ1) = some [.val (scriptD ns), .val (eL ds), e2, .val (.int k), .val (.int n), .own ((ps ++ [lineN ds k n t]).map eP), .no, .no, .no, .no, .no, .no, .no, .no, .no, .no, .no, .no] := by
  unfold lawP
  have lo := line_ok ds k t h1
  have a := mix_lt ds (k + 2 + 2 * t) (many := n - 1) (by omega)
  have m1 : cal (tabOf fds) 100 5 "_law_mix" [eL ds, .int ((k : Int) + 2 + 2 * (t : Int)), .int ((n : Int) - 1)] = some (.int (mixN ds (k + 2 + 2 * t) (n - 1) : Nat)) := by
    rw [show (k : Int) + 2 + 2 * (t : Int) = ((k + 2 + 2 * t : Nat) : Int) by omega, show (n : Int) - 1 = ((n - 1 : Nat) : Int) by omega]
    exact r_law_mix 100 4 ds _ _ hd hl (by omega) (by omega) (by omega)
  have m2 : cal (tabOf fds) 100 5 "_law_mix" [eL ds, .int ((k : Int) + 3 + 2 * (t : Int)), .int ((n : Int) - 1 - (mixN ds (k + 2 + 2 * t) (n - 1) : Nat))] = some (.int (mixN ds (k + 3 + 2 * t) (n - 1 - mixN ds (k + 2 + 2 * t) (n - 1)) : Nat)) := by
    rw [show (k : Int) + 3 + 2 * (t : Int) = ((k + 3 + 2 * t : Nat) : Int) by omega, show (n : Int) - 1 - (mixN ds (k + 2 + 2 * t) (n - 1) : Nat) = ((n - 1 - mixN ds (k + 2 + 2 * t) (n - 1) : Nat) : Int) by omega]
    exact r_law_mix 100 4 ds _ _ hd hl (by omega) (by omega) (by omega)
  have pm : op2 .mul (.int 2) (.int (t : Int)) = some (.int (2 * (t : Int))) := p_mul (by decide) (by omega)
  have ep : PyData.tuple [.int (mixN ds (k + 2 + 2 * t) (n - 1) : Nat), .int ((mixN ds (k + 2 + 2 * t) (n - 1) : Nat) + 1 + (mixN ds (k + 3 + 2 * t) (n - 1 - mixN ds (k + 2 + 2 * t) (n - 1)) : Nat))] = eP (lineN ds k n t) := rfl
  simp (implicitDefEqProofs := false) only [turnE_nx, turnE_cnt, rd_0, rd_o, rd_of, rd_s, gO_0, gO_s, gO2_0, gO2_s, bp_nm, bp_tp, bps_nil, bps_cons, bp_eP, v_var, v_int, v_bool, v_str, v_none, v_glb, v_op, v_ch, v_ch3, v_neg, v_not, v_and, v_or, v_b1, v_ife, v_tup, v_lst, v_idx, v_bi, v_call, v_callB, v_rev, v_cut, v_p0, v_p1, vs_nil, vs_cons, f_0, f_1, i_s, i_r1, i_r2, i_e, i_z, v_lc, v_lc2, v_ssc, v_ssc2, v_sst, v_lset, x_nil, x_cons, t_nx, t_brk, t_cnt, t_ret, x_asgF, x_asgT, x_asgp, x_par, sets_nil, sets_cons, x_app, x_ext, x_exp, x_own2, x_newT, x_ret, x_ite, x_for, x_whl, x_frz, fz_o, fz_o2, fz_v, e_rF, e_rT, e_nF, sq_l, sq_t, sx_l, sx_t, sl_l, sq_L, sx_L, sl_L, sq_Ps, sx_Ps, sl_Ps, sq_G, sx_G, sl_G, sx_P, ai, ab, at0, at1, p_add, p_sub, p_lt, p_le, p_gt, p_ge, p_isB, p_isnB, p_isN, p_isnN, y_len, y_lenT, y_lenL, y_lenPs, y_lenG, y_int, y_intB, y_abs, y_min2, y_max2, y_gcd, y_list, y_listL, y_listPs, y_all, wipeE, frE, bib, Option.bind_some, Option.map_some, List.getD_cons_zero, List.getD_cons_succ, List.set_cons_zero, List.set_cons_succ, List.map_cons, List.map_nil, List.length_cons, List.length_nil, List.replicate, List.cons_append, List.nil_append, if_true, if_false, Bool.false_eq_true, Nat.reduceSub, Nat.reduceAdd, Nat.reduceLeDiff, eN, pm, m1, m2, if_le (show 2 < 1000000 by decide), List.length_map, if_lt (show ps.length < 1000000 by omega), ep, List.map_append]
end K19

set_option Elab.async false
set_option linter.all false
set_option maxRecDepth 100000
set_option maxHeartbeats 4000000
namespace K19
open PySem Pv
/-! ### told, dealt -/
theorem x_app2 {G : Cfg} {N i : Nat} {k v : Xp} {ρ : En} : ex G N (.app2 i k v) ρ = (ev G false k ρ).bind fun dk => (ev G false v ρ).bind fun dv => (asInt dk).bind fun j => (getO2 ρ i).bind fun dss => (L2.ixN dss.length j).bind fun m => (dss[m]?).bind fun ds => if ds.length < line then some (.nx, ρ.set i (.own2 (dss.set m (ds ++ [dv])))) else none := rfl
def dds (told : List (List Nat)) : List (List D) := told.map fun g => g.map eN
def dealN (s v : Nat) (told : List (List Nat)) : List (List Nat) := if s < 4 then told.set s (told.getD s [] ++ [v]) else told
theorem deal_len (s v : Nat) (told : List (List Nat)) : (dealN s v told).length = told.length := by
  unfold dealN
  split
  · rw [List.length_set]
  · rfl
theorem deal_ok {i s v : Nat} {told : List (List Nat)} (h : Gr i told) : Gr (i + 1) (dealN s v told) := by
  refine ⟨by rw [deal_len]; exact h.1, ?_⟩
  unfold dealN
  split
  · rename_i hs
    have h1 := h.1
    have h2 := h.2
    have h3 := fl_split told s (by omega)
    rw [List.set_eq_take_append_cons_drop, if_pos (by omega)]
    simp only [List.flatten_append, List.flatten_cons, List.length_append, List.length_cons, List.length_nil]
    omega
  · have := h.2; omega
theorem V_turn (ns : List Int) (ds : List Nat) (hd : ∀ d ∈ ds, d < 65536) (hl : ds.length < 100000) (k t v : Nat) (hk : k < 1000) (ht : t < 8) (hv : v < 8) (told : List (List Nat)) {i : Nat} (hi8 : i < 8) (hG : Gr i told) (e2 e4 e5 e8 e9 e10 : Ent) : turnE [12, 13] ((bindPat (.nm 12) (eN v) [.val (scriptD ns), .val (eL ds), e2, .val (.int k), e4, e5, .val (.int t), .no, e8, e9, e10, .own2 (dds told), .no, .no, .no, .no, .no, .no]).bind fun ρ1 => exs (CG 100 5) 100 lawV ρ1) = some [.val (scriptD ns), .val (eL ds), e2, .val (.int k), e4, e5, .val (.int t), .no, e8, e9, e10, .own2 (dds (dealN (mixN ds (k + 22 + 6 * t + v) 5) v told)), .no, .no, .no, .no, .no, .no] := by
  unfold lawV
  have a := mix_lt ds (k + 22 + 6 * t + v) (many := 5) (by decide)
  have m1 : cal (tabOf fds) 100 5 "_law_mix" [eL ds, .int ((k : Int) + 22 + 6 * (t : Int) + (v : Int)), .int 5] = some (.int (mixN ds (k + 22 + 6 * t + v) 5 : Nat)) := by
    rw [show (k : Int) + 22 + 6 * (t : Int) + (v : Int) = ((k + 22 + 6 * t + v : Nat) : Int) by omega]
    exact r_law_mix 100 4 ds _ 5 hd hl (by omega) (by decide) (by decide)
  have pm : op2 .mul (.int 6) (.int (t : Int)) = some (.int (6 * (t : Int))) := p_mul (by decide) (by omega)
  simp (implicitDefEqProofs := false) only [turnE_nx, turnE_cnt, rd_0, rd_o, rd_of, rd_s, gO_0, gO_s, gO2_0, gO2_s, bp_nm, bp_tp, bps_nil, bps_cons, bp_eP, v_var, v_int, v_bool, v_str, v_none, v_glb, v_op, v_ch, v_ch3, v_neg, v_not, v_and, v_or, v_b1, v_ife, v_tup, v_lst, v_idx, v_bi, v_call, v_callB, v_rev, v_cut, v_p0, v_p1, vs_nil, vs_cons, f_0, f_1, i_s, i_r1, i_r2, i_e, i_z, v_lc, v_lc2, v_ssc, v_ssc2, v_sst, v_lset, x_nil, x_cons, t_nx, t_brk, t_cnt, t_ret, x_asgF, x_asgT, x_asgp, x_par, sets_nil, sets_cons, x_app, x_ext, x_exp, x_own2, x_newT, x_ret, x_ite, x_for, x_whl, x_frz, fz_o, fz_o2, fz_v, e_rF, e_rT, e_nF, sq_l, sq_t, sx_l, sx_t, sl_l, sq_L, sx_L, sl_L, sq_Ps, sx_Ps, sl_Ps, sq_G, sx_G, sl_G, sx_P, ai, ab, at0, at1, p_add, p_sub, p_lt, p_le, p_gt, p_ge, p_isB, p_isnB, p_isN, p_isnN, y_len, y_lenT, y_lenL, y_lenPs, y_lenG, y_int, y_intB, y_abs, y_min2, y_max2, y_gcd, y_list, y_listL, y_listPs, y_all, wipeE, frE, bib, Option.bind_some, Option.map_some, List.getD_cons_zero, List.getD_cons_succ, List.set_cons_zero, List.set_cons_succ, List.map_cons, List.map_nil, List.length_cons, List.length_nil, List.replicate, List.cons_append, List.nil_append, if_true, if_false, Bool.false_eq_true, Nat.reduceSub, Nat.reduceAdd, Nat.reduceLeDiff, eN, pm, m1]
  generalize mixN ds (k + 22 + 6 * t + v) 5 = s at a ⊢
  unfold dealN
  by_cases hs : s < 4
  · have hi : L2.ixN (dds told).length (s : Int) = some s := by
      unfold dds L2.ixN
      rw [List.length_map, hG.1, if_pos (by omega), if_pos (by omega), Int.toNat_natCast]
    have hg : (dds told)[s]? = some ((told.getD s []).map eN) := by
      unfold dds
      have h4 := hG.1
      rw [List.getElem?_map, List.getD_eq_getElem?_getD, List.getElem?_eq_getElem (by omega)]; rfl
    have gl : (told.getD s []).length ≤ i := by
      have h4 := hG.1
      have := fl_split told s (by omega)
      have := hG.2
      omega
    rw [if_pos hs]
    simp (implicitDefEqProofs := false) only [turnE_nx, turnE_cnt, rd_0, rd_o, rd_of, rd_s, gO_0, gO_s, gO2_0, gO2_s, bp_nm, bp_tp, bps_nil, bps_cons, bp_eP, v_var, v_int, v_bool, v_str, v_none, v_glb, v_op, v_ch, v_ch3, v_neg, v_not, v_and, v_or, v_b1, v_ife, v_tup, v_lst, v_idx, v_bi, v_call, v_callB, v_rev, v_cut, v_p0, v_p1, vs_nil, vs_cons, f_0, f_1, i_s, i_r1, i_r2, i_e, i_z, v_lc, v_lc2, v_ssc, v_ssc2, v_sst, v_lset, x_nil, x_cons, t_nx, t_brk, t_cnt, t_ret, x_asgF, x_asgT, x_asgp, x_par, sets_nil, sets_cons, x_app, x_ext, x_exp, x_own2, x_newT, x_ret, x_ite, x_for, x_whl, x_frz, fz_o, fz_o2, fz_v, e_rF, e_rT, e_nF, sq_l, sq_t, sx_l, sx_t, sl_l, sq_L, sx_L, sl_L, sq_Ps, sx_Ps, sl_Ps, sq_G, sx_G, sl_G, sx_P, ai, ab, at0, at1, p_add, p_sub, p_lt, p_le, p_gt, p_ge, p_isB, p_isnB, p_isN, p_isnN, y_len, y_lenT, y_lenL, y_lenPs, y_lenG, y_int, y_intB, y_abs, y_min2, y_max2, y_gcd, y_list, y_listL, y_listPs, y_all, wipeE, frE, bib, Option.bind_some, Option.map_some, List.getD_cons_zero, List.getD_cons_succ, List.set_cons_zero, List.set_cons_succ, List.map_cons, List.map_nil, List.length_cons, List.length_nil, List.replicate, List.cons_append, List.nil_append, if_true, if_false, Bool.false_eq_true, Nat.reduceSub, Nat.reduceAdd, Nat.reduceLeDiff, decide_eq_true (show (s : Int) < 4 by omega), x_app2, hi, hg, List.length_map, if_lt (show (told.getD s []).length < 1000000 by omega)]
    unfold dds
    rw [List.map_set, List.map_append]
    rfl
  · rw [if_neg hs]
    simp (implicitDefEqProofs := false) only [turnE_nx, turnE_cnt, rd_0, rd_o, rd_of, rd_s, gO_0, gO_s, gO2_0, gO2_s, bp_nm, bp_tp, bps_nil, bps_cons, bp_eP, v_var, v_int, v_bool, v_str, v_none, v_glb, v_op, v_ch, v_ch3, v_neg, v_not, v_and, v_or, v_b1, v_ife, v_tup, v_lst, v_idx, v_bi, v_call, v_callB, v_rev, v_cut, v_p0, v_p1, vs_nil, vs_cons, f_0, f_1, i_s, i_r1, i_r2, i_e, i_z, v_lc, v_lc2, v_ssc, v_ssc2, v_sst, v_lset, x_nil, x_cons, t_nx, t_brk, t_cnt, t_ret, x_asgF, x_asgT, x_asgp, x_par, sets_nil, sets_cons, x_app, x_ext, x_exp, x_own2, x_newT, x_ret, x_ite, x_for, x_whl, x_frz, fz_o, fz_o2, fz_v, e_rF, e_rT, e_nF, sq_l, sq_t, sx_l, sx_t, sl_l, sq_L, sx_L, sl_L, sq_Ps, sx_Ps, sl_Ps, sq_G, sx_G, sl_G, sx_P, ai, ab, at0, at1, p_add, p_sub, p_lt, p_le, p_gt, p_ge, p_isB, p_isnB, p_isN, p_isnN, y_len, y_lenT, y_lenL, y_lenPs, y_lenG, y_int, y_intB, y_abs, y_min2, y_max2, y_gcd, y_list, y_listL, y_listPs, y_all, wipeE, frE, bib, Option.bind_some, Option.map_some, List.getD_cons_zero, List.getD_cons_succ, List.set_cons_zero, List.set_cons_succ, List.map_cons, List.map_nil, List.length_cons, List.length_nil, List.replicate, List.cons_append, List.nil_append, if_true, if_false, Bool.false_eq_true, Nat.reduceSub, Nat.reduceAdd, Nat.reduceLeDiff, decide_eq_false (show ¬ (s : Int) < 4 by omega)]
end K19

set_option Elab.async false
set_option linter.all false
set_option maxRecDepth 100000
set_option maxHeartbeats 4000000
namespace K19
open PySem Pv
def dealt (ds : List Nat) (k n t : Nat) : List (List Nat) := (List.range n).foldl (fun told v => dealN (mixN ds (k + 22 + 6 * t + v) 5) v told) [[], [], [], []]
theorem both (n : Nat) (ps : List (Nat × Nat)) (h1 : 1 ≤ n) (h5 : n ≤ 5) (hp : ps.length ≤ 14) (ok : okPs n ps) (told : List (List Nat)) (ht : told.length < 90) (hf : told.flatten.length < 60) : cal (tabOf fds) 100 5 "are_four_sets" [gridD n ps, eG told] = some (.bool (lafM n ps told)) ∧ cal (tabOf fds) 100 5 "_law_are_four" [.int n, ePs ps, eG told] = some (.bool (lafM n ps told)) :=
  ⟨r_are_four_sets 100 1 n ps h1 (by omega) hp ok told ht (by omega) (fun g hg => by have := flen_mem hg; omega) _ (af_eq n ps told (by omega)), r_law_are_four 100 3 n ps told (by omega) ht (by omega) (fun g hg => by have := flen_mem hg; omega)⟩
theorem dds_eL (told : List (List Nat)) : (dds told).map PyData.list = told.map eL := by
  unfold dds
  rw [List.map_map]; rfl
theorem T_turn (ns : List Int) (ds : List Nat) (hd : ∀ d ∈ ds, d < 65536) (hl : ds.length < 100000) (k n t : Nat) (hk : k < 1000) (ht : t < 8) (ps : List (Nat × Nat)) (h1 : 1 ≤ n) (h5 : n ≤ 5) (hp : ps.length ≤ 14) (ok : okPs n ps) (e2 e9 e10 : Ent) : turnE [6, 11, 12, 13] ((bindPat (.nm 6) (eN t) [.val (scriptD ns), .val (eL ds), e2, .val (.int k), .val (.int n), .val (ePs ps), .no, .no, .val (gridD n ps), e9, e10, .no, .no, .no, .no, .no, .no, .no]).bind fun ρ1 => exs (CG 100 5) 100 lawT ρ1) = some [.val (scriptD ns), .val (eL ds), e2, .val (.int k), .val (.int n), .val (ePs ps), .no, .no, .val (gridD n ps), e9, e10, .no, .no, .no, .no, .no, .no, .no] := by
  unfold lawT
  have lp := fun f hf => forGo_n f [12, 13] eN (fun told : List (List Nat) => [.val (scriptD ns), .val (eL ds), e2, .val (.int k), .val (.int n), .val (ePs ps), .val (.int t), .no, .val (gridD n ps), e9, e10, .own2 (dds told), .no, .no, .no, .no, .no, .no]) (fun told v => dealN (mixN ds (k + 22 + 6 * t + v) 5) v told) Gr n (List.range n) [[], [], [], []] 0 ⟨rfl, by decide⟩ (by rw [List.length_range]; omega) hf
  have lp2 := fun f hf => show forGo f [12, 13] ((List.range n).map eN) [.val (scriptD ns), .val (eL ds), e2, .val (.int k), .val (.int n), .val (ePs ps), .val (.int t), .no, .val (gridD n ps), e9, e10, .own2 [[], [], [], []], .no, .no, .no, .no, .no, .no] = _ from (lp f hf).1
  simp (implicitDefEqProofs := false) only [turnE_nx, turnE_cnt, rd_0, rd_o, rd_of, rd_s, gO_0, gO_s, gO2_0, gO2_s, bp_nm, bp_tp, bps_nil, bps_cons, bp_eP, v_var, v_int, v_bool, v_str, v_none, v_glb, v_op, v_ch, v_ch3, v_neg, v_not, v_and, v_or, v_b1, v_ife, v_tup, v_lst, v_idx, v_bi, v_call, v_callB, v_rev, v_cut, v_p0, v_p1, vs_nil, vs_cons, f_0, f_1, i_s, i_r1, i_r2, i_e, i_z, v_lc, v_lc2, v_ssc, v_ssc2, v_sst, v_lset, x_nil, x_cons, t_nx, t_brk, t_cnt, t_ret, x_asgF, x_asgT, x_asgp, x_par, sets_nil, sets_cons, x_app, x_ext, x_exp, x_own2, x_newT, x_ret, x_ite, x_for, x_whl, x_frz, fz_o, fz_o2, fz_v, e_rF, e_rT, e_nF, sq_l, sq_t, sx_l, sx_t, sl_l, sq_L, sx_L, sl_L, sq_Ps, sx_Ps, sl_Ps, sq_G, sx_G, sl_G, sx_P, ai, ab, at0, at1, p_add, p_sub, p_lt, p_le, p_gt, p_ge, p_isB, p_isnB, p_isN, p_isnN, y_len, y_lenT, y_lenL, y_lenPs, y_lenG, y_int, y_intB, y_abs, y_min2, y_max2, y_gcd, y_list, y_listL, y_listPs, y_all, wipeE, frE, bib, Option.bind_some, Option.map_some, List.getD_cons_zero, List.getD_cons_succ, List.set_cons_zero, List.set_cons_succ, List.map_cons, List.map_nil, List.length_cons, List.length_nil, List.replicate, List.cons_append, List.nil_append, if_true, if_false, Bool.false_eq_true, Nat.reduceSub, Nat.reduceAdd, Nat.reduceLeDiff, rng_ok (show n < 1000000 by omega), Int.toNat_natCast, rng_map, show eN t = PyData.int (t : Int) from rfl]
  rw [lp2 _ ?_]
  · have G := (show Gr n (dealt ds k n t) from by
      have : ∀ (l : List Nat) (told : List (List Nat)) (i : Nat), Gr i told → Gr (i + l.length) (l.foldl (fun told v => dealN (mixN ds (k + 22 + 6 * t + v) 5) v told) told) := by
        intro l
        induction l with
        | nil => intro told i h; exact h
        | cons x l ih =>
          intro told i h
          have := ih _ (i + 1) (deal_ok (s := mixN ds (k + 22 + 6 * t + x) 5) (v := x) h)
          rw [List.foldl_cons, List.length_cons, show i + (l.length + 1) = i + 1 + l.length by omega]
          exact this
      have q := this (List.range n) [[], [], [], []] 0 ⟨rfl, by decide⟩
      rw [List.length_range, Nat.zero_add] at q
      exact q)
    obtain ⟨b1, b2⟩ := both n ps h1 h5 hp ok (dealt ds k n t) (by rw [G.1]; decide) (by have := G.2; omega)
    rw [show (List.range n).foldl (fun told v => dealN (mixN ds (k + 22 + 6 * t + v) 5) v told) [[], [], [], []] = dealt ds k n t from rfl]
    have lg : ∀ gs : List (List Nat), PyData.list (gs.map eL) = eG gs := fun _ => rfl
    simp (implicitDefEqProofs := false) only [turnE_nx, turnE_cnt, rd_0, rd_o, rd_of, rd_s, gO_0, gO_s, gO2_0, gO2_s, bp_nm, bp_tp, bps_nil, bps_cons, bp_eP, v_var, v_int, v_bool, v_str, v_none, v_glb, v_op, v_ch, v_ch3, v_neg, v_not, v_and, v_or, v_b1, v_ife, v_tup, v_lst, v_idx, v_bi, v_call, v_callB, v_rev, v_cut, v_p0, v_p1, vs_nil, vs_cons, f_0, f_1, i_s, i_r1, i_r2, i_e, i_z, v_lc, v_lc2, v_ssc, v_ssc2, v_sst, v_lset, x_nil, x_cons, t_nx, t_brk, t_cnt, t_ret, x_asgF, x_asgT, x_asgp, x_par, sets_nil, sets_cons, x_app, x_ext, x_exp, x_own2, x_newT, x_ret, x_ite, x_for, x_whl, x_frz, fz_o, fz_o2, fz_v, e_rF, e_rT, e_nF, sq_l, sq_t, sx_l, sx_t, sl_l, sq_L, sx_L, sl_L, sq_Ps, sx_Ps, sl_Ps, sq_G, sx_G, sl_G, sx_P, ai, ab, at0, at1, p_add, p_sub, p_lt, p_le, p_gt, p_ge, p_isB, p_isnB, p_isN, p_isnN, y_len, y_lenT, y_lenL, y_lenPs, y_lenG, y_int, y_intB, y_abs, y_min2, y_max2, y_gcd, y_list, y_listL, y_listPs, y_all, wipeE, frE, bib, Option.bind_some, Option.map_some, List.getD_cons_zero, List.getD_cons_succ, List.set_cons_zero, List.set_cons_succ, List.map_cons, List.map_nil, List.length_cons, List.length_nil, List.replicate, List.cons_append, List.nil_append, if_true, if_false, Bool.false_eq_true, Nat.reduceSub, Nat.reduceAdd, Nat.reduceLeDiff, eN, dds_eL, lg, b1, b2, o_neB, decide_true, Bool.not_true]
  · intro i told v hv hi hG
    refine ⟨?_, deal_ok hG⟩
    have w := V_turn ns ds hd hl k t v hk ht (by have := List.mem_range.mp hv; omega) told (by omega) hG e2 (.val (.int n)) (.val (ePs ps)) (.val (gridD n ps)) e9 e10
    exact w
end K19

set_option Elab.async false
set_option linter.all false
set_option maxRecDepth 100000
set_option maxHeartbeats 4000000
namespace K19
open PySem Pv
theorem F_turn (ns : List Int) (ds : List Nat) (n : Nat) (ps : List (Nat × Nat)) (h1 : 1 ≤ n) (h5 : n ≤ 5) (hp : ps.length ≤ 14) (ok : okPs n ps) (told : List (List Nat)) (ht : told.length < 90) (hf : told.flatten.length < 60) (e2 e3 e9 e10 : Ent) : turnE [11] ((bindPat (.nm 11) (eG told) [.val (scriptD ns), .val (eL ds), e2, e3, .val (.int n), .val (ePs ps), .no, .no, .val (gridD n ps), e9, e10, .no, .no, .no, .no, .no, .no, .no]).bind fun ρ1 => exs (CG 100 5) 100 lawF ρ1) = some [.val (scriptD ns), .val (eL ds), e2, e3, .val (.int n), .val (ePs ps), .no, .no, .val (gridD n ps), e9, e10, .no, .no, .no, .no, .no, .no, .no] := by
  unfold lawF
  obtain ⟨b1, b2⟩ := both n ps h1 h5 hp ok told ht hf
  simp (implicitDefEqProofs := false) only [turnE_nx, turnE_cnt, rd_0, rd_o, rd_of, rd_s, gO_0, gO_s, gO2_0, gO2_s, bp_nm, bp_tp, bps_nil, bps_cons, bp_eP, v_var, v_int, v_bool, v_str, v_none, v_glb, v_op, v_ch, v_ch3, v_neg, v_not, v_and, v_or, v_b1, v_ife, v_tup, v_lst, v_idx, v_bi, v_call, v_callB, v_rev, v_cut, v_p0, v_p1, vs_nil, vs_cons, f_0, f_1, i_s, i_r1, i_r2, i_e, i_z, v_lc, v_lc2, v_ssc, v_ssc2, v_sst, v_lset, x_nil, x_cons, t_nx, t_brk, t_cnt, t_ret, x_asgF, x_asgT, x_asgp, x_par, sets_nil, sets_cons, x_app, x_ext, x_exp, x_own2, x_newT, x_ret, x_ite, x_for, x_whl, x_frz, fz_o, fz_o2, fz_v, e_rF, e_rT, e_nF, sq_l, sq_t, sx_l, sx_t, sl_l, sq_L, sx_L, sl_L, sq_Ps, sx_Ps, sl_Ps, sq_G, sx_G, sl_G, sx_P, ai, ab, at0, at1, p_add, p_sub, p_lt, p_le, p_gt, p_ge, p_isB, p_isnB, p_isN, p_isnN, y_len, y_lenT, y_lenL, y_lenPs, y_lenG, y_int, y_intB, y_abs, y_min2, y_max2, y_gcd, y_list, y_listL, y_listPs, y_all, wipeE, frE, bib, Option.bind_some, Option.map_some, List.getD_cons_zero, List.getD_cons_succ, List.set_cons_zero, List.set_cons_succ, List.map_cons, List.map_nil, List.length_cons, List.length_nil, List.replicate, List.cons_append, List.nil_append, if_true, if_false, Bool.false_eq_true, Nat.reduceSub, Nat.reduceAdd, Nat.reduceLeDiff, b1, b2, o_neB, decide_true, Bool.not_true]
def toldsF (n : Nat) (A B C E : List Nat) : List (List (List Nat)) := [[E, C, B, A], [B, C, E], [A, B, C, E] ++ [[]], [A.reverse] ++ [B, C, E], [A ++ B.take 1] ++ [B, C, E], [A ++ [n]] ++ [B, C, E], [[]] ++ [B, C, E]]
theorem found_ev (n : Nat) (A B C E : List Nat) (hA : A.length < 60) (hB : B.length < 60) (e0 e1 e2 e3 e5 e8 e9 : Ent) : evIt (CG 100 5) false (.seq (.lst (.cons (.rev (.var 10)) (.cons (.cut (.var 10) (some (.con (.int 1))) none) (.cons (.op .add (.var 10) (.lst (.cons (.lst .nil) .nil))) (.cons (.op .add (.lst (.cons (.rev (.idx (.var 10) (.con (.int 0)))) .nil)) (.cut (.var 10) (some (.con (.int 1))) none)) (.cons (.op .add (.lst (.cons (.op .add (.idx (.var 10) (.con (.int 0))) (.cut (.idx (.var 10) (.con (.int 1))) none (some (.con (.int 1))))) .nil)) (.cut (.var 10) (some (.con (.int 1))) none)) (.cons (.op .add (.lst (.cons (.op .add (.idx (.var 10) (.con (.int 0))) (.lst (.cons (.var 4) .nil))) .nil)) (.cut (.var 10) (some (.con (.int 1))) none)) (.cons (.op .add (.lst (.cons (.lst .nil) .nil)) (.cut (.var 10) (some (.con (.int 1))) none)) .nil))))))))) [e0, e1, e2, e3, .val (.int n), e5, .no, .no, e8, e9, .val (eG [A, B, C, E]), .no, .no, .no, .no, .no, .no, .no] = some ((toldsF n A B C E).map eG) := by
  have c1 : cutD ([A, B, C, E].map eL) (some 1) none = [B, C, E].map eL := cut_from eL [A, B, C, E] 1
  have c2 : cutD (B.map eN) none (some 1) = (B.take 1).map eN := cut_to eN B 1
  have i0 : L2.atI ([A, B, C, E].map eL) 0 = some (eL A) := at_map eL [A, B, C, E] 0 rfl
  have i1 : L2.atI ([A, B, C, E].map eL) 1 = some (eL B) := at_map eL [A, B, C, E] 1 rfl
  have tl : (B.take 1).length ≤ 1 := by rw [List.length_take]; omega
  have q1 : op2 .add (eG [A, B, C, E]) (.list [.list []]) = some (eG ([A, B, C, E] ++ [[]])) := by
    have := o_catG [A, B, C, E] [[]]
    rw [if_le (by simp)] at this
    exact this
  have q2 : ∀ X : List Nat, op2 .add (.list [eL X]) (.list [eL B, eL C, eL E]) = some (eG ([X] ++ [B, C, E])) := fun X => by
    have := o_catG [X] [B, C, E]
    rw [if_le (by simp)] at this
    exact this
  have q3 : op2 .add (.list [.list []]) (.list [eL B, eL C, eL E]) = some (eG ([[]] ++ [B, C, E])) := q2 []
  have q4 : op2 .add (eL A) (.list ((B.take 1).map eN)) = some (eL (A ++ B.take 1)) := by
    have := o_catL A (B.take 1)
    rw [if_le (by omega)] at this
    exact this
  have q5 := o_catv A n
  rw [if_le (by omega)] at q5
  have lg : PyData.list [eL B, eL C, eL E] = eG [B, C, E] := rfl
  have i0' : L2.atI [eL A, eL B, eL C, eL E] 0 = some (eL A) := i0
  have i1' : L2.atI [eL A, eL B, eL C, eL E] 1 = some (eL B) := i1
  have c1' : cutD [eL A, eL B, eL C, eL E] (some 1) none = [eL B, eL C, eL E] := c1
  have rv0 : ∀ ρ : En, rd true ρ 10 = some (eG [A, B, C, E]) → ev (CG 100 5) false (.rev (.var 10)) ρ = some (eG [E, C, B, A]) := fun ρ h => by
    show (rd true ρ 10).bind _ = _
    rw [h]; rfl
  have rv1 : ∀ ρ : En, rd true ρ 10 = some (eG [A, B, C, E]) → ev (CG 100 5) false (.rev (.idx (.var 10) (.con (.int 0)))) ρ = some (eL A.reverse) := fun ρ h => by
    have e : ev (CG 100 5) true (.idx (.var 10) (.con (.int 0))) ρ = some (eL A) := by
      simp (implicitDefEqProofs := false) only [turnE_nx, turnE_cnt, rd_0, rd_o, rd_of, rd_s, gO_0, gO_s, gO2_0, gO2_s, bp_nm, bp_tp, bps_nil, bps_cons, bp_eP, v_var, v_int, v_bool, v_str, v_none, v_glb, v_op, v_ch, v_ch3, v_neg, v_not, v_and, v_or, v_b1, v_ife, v_tup, v_lst, v_idx, v_bi, v_call, v_callB, v_rev, v_cut, v_p0, v_p1, vs_nil, vs_cons, f_0, f_1, i_s, i_r1, i_r2, i_e, i_z, v_lc, v_lc2, v_ssc, v_ssc2, v_sst, v_lset, x_nil, x_cons, t_nx, t_brk, t_cnt, t_ret, x_asgF, x_asgT, x_asgp, x_par, sets_nil, sets_cons, x_app, x_ext, x_exp, x_own2, x_newT, x_ret, x_ite, x_for, x_whl, x_frz, fz_o, fz_o2, fz_v, e_rF, e_rT, e_nF, sq_l, sq_t, sx_l, sx_t, sl_l, sq_L, sx_L, sl_L, sq_Ps, sx_Ps, sl_Ps, sq_G, sx_G, sl_G, sx_P, ai, ab, at0, at1, p_add, p_sub, p_lt, p_le, p_gt, p_ge, p_isB, p_isnB, p_isN, p_isnN, y_len, y_lenT, y_lenL, y_lenPs, y_lenG, y_int, y_intB, y_abs, y_min2, y_max2, y_gcd, y_list, y_listL, y_listPs, y_all, wipeE, frE, bib, Option.bind_some, Option.map_some, List.getD_cons_zero, List.getD_cons_succ, List.set_cons_zero, List.set_cons_succ, List.map_cons, List.map_nil, List.length_cons, List.length_nil, List.replicate, List.cons_append, List.nil_append, if_true, if_false, Bool.false_eq_true, Nat.reduceSub, Nat.reduceAdd, Nat.reduceLeDiff, h, i0']
    show (ev (CG 100 5) true (.idx (.var 10) (.con (.int 0))) ρ).bind _ = _
    rw [e]
    show some (PyData.list (A.map eN).reverse) = _
    rw [← List.map_reverse]; rfl
  have hr : rd true [e0, e1, e2, e3, .val (.int n), e5, .no, .no, e8, e9, .val (eG [A, B, C, E]), .no, .no, .no, .no, .no, .no, .no] 10 = some (eG [A, B, C, E]) := rfl
  have R0 := rv0 _ hr
  have R1 := rv1 _ hr
  rw [i_s]
  simp (implicitDefEqProofs := false) only [v_lst, vs_cons, v_op, R0, R1]
  simp (implicitDefEqProofs := false) only [turnE_nx, turnE_cnt, rd_0, rd_o, rd_of, rd_s, gO_0, gO_s, gO2_0, gO2_s, bp_nm, bp_tp, bps_nil, bps_cons, bp_eP, v_var, v_int, v_bool, v_str, v_none, v_glb, v_op, v_ch, v_ch3, v_neg, v_not, v_and, v_or, v_b1, v_ife, v_tup, v_lst, v_idx, v_bi, v_call, v_callB, v_rev, v_cut, v_p0, v_p1, vs_nil, vs_cons, f_0, f_1, i_s, i_r1, i_r2, i_e, i_z, v_lc, v_lc2, v_ssc, v_ssc2, v_sst, v_lset, x_nil, x_cons, t_nx, t_brk, t_cnt, t_ret, x_asgF, x_asgT, x_asgp, x_par, sets_nil, sets_cons, x_app, x_ext, x_exp, x_own2, x_newT, x_ret, x_ite, x_for, x_whl, x_frz, fz_o, fz_o2, fz_v, e_rF, e_rT, e_nF, sq_l, sq_t, sx_l, sx_t, sl_l, sq_L, sx_L, sl_L, sq_Ps, sx_Ps, sl_Ps, sq_G, sx_G, sl_G, sx_P, ai, ab, at0, at1, p_add, p_sub, p_lt, p_le, p_gt, p_ge, p_isB, p_isnB, p_isN, p_isnN, y_len, y_lenT, y_lenL, y_lenPs, y_lenG, y_int, y_intB, y_abs, y_min2, y_max2, y_gcd, y_list, y_listL, y_listPs, y_all, wipeE, frE, bib, Option.bind_some, Option.map_some, List.getD_cons_zero, List.getD_cons_succ, List.set_cons_zero, List.set_cons_succ, List.map_cons, List.map_nil, List.length_cons, List.length_nil, List.replicate, List.cons_append, List.nil_append, if_true, if_false, Bool.false_eq_true, Nat.reduceSub, Nat.reduceAdd, Nat.reduceLeDiff, c1', c2, i0', i1', if_le (show 0 < 1000000 by decide), if_le (show 1 < 1000000 by decide), q1, q2, q3, q4, q5, if_le (show 7 < 1000000 by decide)]
  rfl
end K19

set_option Elab.async false
set_option linter.all false
set_option maxRecDepth 100000
set_option maxHeartbeats 4000000
namespace K19
open PySem Pv
theorem four_of {n : Nat} {ps : List (Nat × Nat)} {g : List (List Nat)} (h : lafM n ps g = true) : ∃ A B C E, g = [A, B, C, E] := by
  have : g.length = 4 := by
    unfold lafM at h
    by_cases c : g.length = 4
    · exact c
    · rw [decide_eq_false c] at h
      simp at h
  match g, this with
  | [A, B, C, E], _ => exact ⟨A, B, C, E, rfl⟩
theorem toldsF_ok {n : Nat} {A B C E : List Nat} (h : ([A, B, C, E] : List (List Nat)).flatten.length ≤ 5) : ∀ told ∈ toldsF n A B C E, told.length < 90 ∧ told.flatten.length < 60 := by
  have h' : A.length + (B.length + (C.length + E.length)) ≤ 5 := by simpa using h
  have tb : (B.take 1).length ≤ B.length := by rw [List.length_take]; omega
  intro told ht
  unfold toldsF at ht
  simp only [List.mem_cons, List.not_mem_nil, or_false] at ht
  rcases ht with rfl | rfl | rfl | rfl | rfl | rfl | rfl <;> simp <;> omega
theorem found_loop (ns : List Int) (ds : List Nat) (n : Nat) (ps : List (Nat × Nat)) (h1 : 1 ≤ n) (h5 : n ≤ 5) (hp : ps.length ≤ 14) (ok : okPs n ps) (A B C E : List Nat) (hf : ([A, B, C, E] : List (List Nat)).flatten.length ≤ 5) (e2 e3 e9 : Ent) : forGo (fun x ρ => (bindPat (.nm 11) x ρ).bind fun ρ1 => exs (CG 100 5) 100 lawF ρ1) [11] ((toldsF n A B C E).map eG) [.val (scriptD ns), .val (eL ds), e2, e3, .val (.int n), .val (ePs ps), .no, .no, .val (gridD n ps), e9, .val (eG [A, B, C, E]), .no, .no, .no, .no, .no, .no, .no] = some (.nx, [.val (scriptD ns), .val (eL ds), e2, e3, .val (.int n), .val (ePs ps), .no, .no, .val (gridD n ps), e9, .val (eG [A, B, C, E]), .no, .no, .no, .no, .no, .no, .no]) := by
  refine forGo_c _ [11] eG _ _ fun told ht => ?_
  obtain ⟨a, b⟩ := toldsF_ok hf told ht
  exact F_turn ns ds n ps h1 h5 hp ok told a b e2 e3 e9 _
theorem T_loop (ns : List Int) (ds : List Nat) (hd : ∀ d ∈ ds, d < 65536) (hl : ds.length < 100000) (k n : Nat) (hk : k < 1000) (ps : List (Nat × Nat)) (h1 : 1 ≤ n) (h5 : n ≤ 5) (hp : ps.length ≤ 14) (ok : okPs n ps) (e2 e9 e10 : Ent) : forGo (fun x ρ => (bindPat (.nm 6) x ρ).bind fun ρ1 => exs (CG 100 5) 100 lawT ρ1) [6, 11, 12, 13] ((List.range 8).map eN) [.val (scriptD ns), .val (eL ds), e2, .val (.int k), .val (.int n), .val (ePs ps), .no, .no, .val (gridD n ps), e9, e10, .no, .no, .no, .no, .no, .no, .no] = some (.nx, [.val (scriptD ns), .val (eL ds), e2, .val (.int k), .val (.int n), .val (ePs ps), .no, .no, .val (gridD n ps), e9, e10, .no, .no, .no, .no, .no, .no, .no]) :=
  forGo_c _ [6, 11, 12, 13] eN _ _ fun t ht => T_turn ns ds hd hl k n t hk (List.mem_range.mp ht) ps h1 h5 hp ok e2 e9 e10
def psN (ds : List Nat) (k n c : Nat) : List (Nat × Nat) := (List.range c).map (lineN ds k n)
theorem P_loop (ns : List Int) (ds : List Nat) (hd : ∀ d ∈ ds, d < 65536) (hl : ds.length < 100000) (k n c : Nat) (hk : k < 1000) (h1 : c = 0 ∨ 1 < n) (h5 : n ≤ 5) (hc : c ≤ 8) (e2 : Ent) : forGo (fun x ρ => (bindPat (.nm 6) x ρ).bind fun ρ1 => exs (CG 100 5) 100 lawP ρ1) [6, 7] ((List.range c).map eN) [.val (scriptD ns), .val (eL ds), e2, .val (.int k), .val (.int n), .own [], .no, .no, .no, .no, .no, .no, .no, .no, .no, .no, .no, .no] = some (.nx, [.val (scriptD ns), .val (eL ds), e2, .val (.int k), .val (.int n), .own ((psN ds k n c).map eP), .no, .no, .no, .no, .no, .no, .no, .no, .no, .no, .no, .no]) := by
  have w := (forGo_n (fun x ρ => (bindPat (.nm 6) x ρ).bind fun ρ1 => exs (CG 100 5) 100 lawP ρ1) [6, 7] eN (fun ps : List (Nat × Nat) => [.val (scriptD ns), .val (eL ds), e2, .val (.int k), .val (.int n), .own (ps.map eP), .no, .no, .no, .no, .no, .no, .no, .no, .no, .no, .no, .no]) (fun ps t => ps ++ [lineN ds k n t]) (fun i ps => ps.length ≤ i) 8 (List.range c) [] 0 (Nat.le_refl 0) (by rw [List.length_range]; omega) (fun i ps t ht hi hI => by
    have := List.mem_range.mp ht
    refine ⟨P_turn ns ds hd hl k n t hk (by omega) h5 (by omega) ps (by omega) e2, by rw [List.length_append, List.length_singleton]; omega⟩)).1
  have e : ∀ (l : List Nat) (acc : List (Nat × Nat)), l.foldl (fun ps t => ps ++ [lineN ds k n t]) acc = acc ++ l.map (lineN ds k n) := by
    intro l
    induction l with
    | nil => intro acc; simp
    | cons x l ih => intro acc; rw [List.foldl_cons, ih]; simp
  rw [e, List.nil_append] at w
  exact w
theorem psN_ok (ds : List Nat) (k n c : Nat) (h1 : c = 0 ∨ 1 < n) : okPs n (psN ds k n c) := fun p hp => by
  obtain ⟨t, ht, rfl⟩ := List.mem_map.mp hp
  have := List.mem_range.mp ht
  exact line_ok ds k t (by omega)
end K19

set_option Elab.async false
set_option linter.all false
set_option maxRecDepth 100000
set_option maxHeartbeats 4000000
namespace K19
open PySem Pv
def lawS : Xp := (.lst (.cons (.rev (.var 10)) (.cons (.cut (.var 10) (some (.con (.int 1))) none) (.cons (.op .add (.var 10) (.lst (.cons (.lst .nil) .nil))) (.cons (.op .add (.lst (.cons (.rev (.idx (.var 10) (.con (.int 0)))) .nil)) (.cut (.var 10) (some (.con (.int 1))) none)) (.cons (.op .add (.lst (.cons (.op .add (.idx (.var 10) (.con (.int 0))) (.cut (.idx (.var 10) (.con (.int 1))) none (some (.con (.int 1))))) .nil)) (.cut (.var 10) (some (.con (.int 1))) none)) (.cons (.op .add (.lst (.cons (.op .add (.idx (.var 10) (.con (.int 0))) (.lst (.cons (.var 4) .nil))) .nil)) (.cut (.var 10) (some (.con (.int 1))) none)) (.cons (.op .add (.lst (.cons (.lst .nil) .nil)) (.cut (.var 10) (some (.con (.int 1))) none)) .nil))))))))
theorem lawB1_eq : lawB1 = (.cons (.par [3, 4] (.cons (.op .add (.con (.int 10)) (.op .mul (.con (.int 60)) (.var 2))) (.cons (.op .add (.con (.int 1)) (.call "_law_mix" (.cons (.var 1) (.cons (.op .add (.con (.int 10)) (.op .mul (.con (.int 60)) (.var 2))) (.cons (.con (.int 5)) .nil))))) .nil))) (.cons (.asg true 5 (.lst .nil)) (.cons (.for (.nm 6) (.rng (.cons (.op .mul (.call "_law_mix" (.cons (.var 1) (.cons (.op .add (.var 3) (.con (.int 1))) (.cons (.con (.int 9)) .nil)))) (.bi .int (.cons (.op .gt (.var 4) (.con (.int 1))) .nil))) .nil)) lawP [6, 7]) (.cons (.frz 5) (.cons (.par [8, 9] (.cons (.call "_law_whole" (.cons (.var 4) (.cons (.var 5) .nil))) (.cons (.call "_law_has_four" (.cons (.var 4) (.cons (.var 5) .nil))) .nil))) (.cons (.asg false 10 (.call "four_sets" (.cons (.var 8) .nil))) (.cons (.frz 5) (.cons (.ite (.bool false (.cons (.op .eq (.call "is_plain" (.cons (.var 8) .nil)) (.var 9)) (.cons (.op .eq (.op .is (.var 10) (.con .none)) (.var 9)) (.cons (.bool true (.cons (.op .isNot (.var 10) (.con .none)) (.cons (.bool false (.cons (.not (.call "_law_are_four" (.cons (.var 4) (.cons (.var 5) (.cons (.var 10) .nil))))) (.cons (.op .isNot (.call "are_four_sets" (.cons (.var 8) (.cons (.var 10) .nil))) (.con (.bool true))) .nil))) .nil))) .nil)))) (.cons (.ret (.con (.bool false))) .nil) .nil) (.cons (.for (.nm 6) (.rng (.cons (.con (.int 8)) .nil)) lawT [6, 11, 12, 13]) (.cons (.ite (.op .isNot (.var 10) (.con .none)) (.cons (.for (.nm 11) (.seq lawS) lawF [11]) .nil) .nil) (.cons (.ite (.bool true (.cons (.not (.var 9)) (.cons (.op .ne (.var 5) (.lst .nil)) .nil))) (.cons (.asg false 14 (.call "_law_mix" (.cons (.var 1) (.cons (.op .add (.var 3) (.con (.int 21))) (.cons (.bi .len (.cons (.var 5) .nil)) .nil))))) (.cons (.ite (.not (.call "is_plain" (.cons (.call "_law_whole" (.cons (.var 4) (.cons (.op .add (.cut (.var 5) none (some (.var 14))) (.cut (.var 5) (some (.op .add (.var 14) (.con (.int 1)))) none)) .nil))) .nil))) (.cons (.ret (.con (.bool false))) .nil) .nil) .nil)) .nil) .nil))))))))))) := rfl
theorem B1_turn (hg5 : (subs (allE 5)).all (gOk 5) = true) (ns : List Int) (ds : List Nat) (hd : ∀ d ∈ ds, d < 65536) (hl : ds.length < 100000) (turn : Nat) (ht : turn < 2) : turnE [2, 3, 4, 5, 6, 7, 8, 9, 10, 11, 12, 13, 14] ((bindPat (.nm 2) (eN turn) (en2 ns ds)).bind fun ρ1 => exs (CG 100 5) 100 lawB1 ρ1) = some (en2 ns ds) := by
  unfold en2
  rw [lawB1_eq]
  have pm : op2 .mul (.int 60) (.int (turn : Int)) = some (.int (60 * (turn : Int))) := p_mul (by decide) (by omega)
  have e1 : (10 : Int) + 60 * (turn : Int) = ((10 + 60 * turn : Nat) : Int) := by omega
  have m1 : cal (tabOf fds) 100 5 "_law_mix" [eL ds, .int ((10 + 60 * turn : Nat) : Int), .int 5] = some (.int (mixN ds (10 + 60 * turn) 5 : Nat)) := r_law_mix 100 4 ds _ 5 hd hl (by omega) (by decide) (by decide)
  have hk : 10 + 60 * turn < 1000 := by omega
  generalize 10 + 60 * turn = k at e1 m1 hk
  have ml := mix_lt ds k (many := 5) (by decide)
  have e2 : (1 : Int) + (mixN ds k 5 : Nat) = ((1 + mixN ds k 5 : Nat) : Int) := by omega
  have h1 : 1 ≤ 1 + mixN ds k 5 := by omega
  have h5 : 1 + mixN ds k 5 ≤ 5 := by omega
  simp (implicitDefEqProofs := false) only [turnE_nx, turnE_cnt, rd_0, rd_o, rd_of, rd_s, gO_0, gO_s, gO2_0, gO2_s, bp_nm, bp_tp, bps_nil, bps_cons, bp_eP, v_var, v_int, v_bool, v_str, v_none, v_glb, v_op, v_ch, v_ch3, v_neg, v_not, v_and, v_or, v_b1, v_ife, v_tup, v_lst, v_idx, v_bi, v_call, v_callB, v_rev, v_cut, v_p0, v_p1, vs_nil, vs_cons, f_0, f_1, i_s, i_r1, i_r2, i_e, i_z, v_lc, v_lc2, v_ssc, v_ssc2, v_sst, v_lset, x_nil, x_cons, t_nx, t_brk, t_cnt, t_ret, x_asgF, x_asgT, x_asgp, x_par, sets_nil, sets_cons, x_app, x_ext, x_exp, x_own2, x_newT, x_ret, x_ite, x_for, x_whl, x_frz, fz_o, fz_o2, fz_v, e_rF, e_rT, e_nF, sq_l, sq_t, sx_l, sx_t, sl_l, sq_L, sx_L, sl_L, sq_Ps, sx_Ps, sl_Ps, sq_G, sx_G, sl_G, sx_P, ai, ab, at0, at1, p_add, p_sub, p_lt, p_le, p_gt, p_ge, p_isB, p_isnB, p_isN, p_isnN, y_len, y_lenT, y_lenL, y_lenPs, y_lenG, y_int, y_intB, y_abs, y_min2, y_max2, y_gcd, y_list, y_listL, y_listPs, y_all, wipeE, frE, bib, Option.bind_some, Option.map_some, List.getD_cons_zero, List.getD_cons_succ, List.set_cons_zero, List.set_cons_succ, List.map_cons, List.map_nil, List.length_cons, List.length_nil, List.replicate, List.cons_append, List.nil_append, if_true, if_false, Bool.false_eq_true, Nat.reduceSub, Nat.reduceAdd, Nat.reduceLeDiff, eN, pm, e1, m1, e2]
  generalize 1 + mixN ds k 5 = n at h1 h5 ⊢
  have e3 : (k : Int) + 1 = ((k + 1 : Nat) : Int) := rfl
  have m2 : cal (tabOf fds) 100 5 "_law_mix" [eL ds, .int ((k + 1 : Nat) : Int), .int 9] = some (.int (mixN ds (k + 1) 9 : Nat)) := r_law_mix 100 4 ds _ 9 hd hl (by omega) (by decide) (by decide)
  have ml2 := mix_lt ds (k + 1) (many := 9) (by decide)
  obtain ⟨c, hc, hc8, hc1⟩ : ∃ c : Nat, op2 .mul (.int (mixN ds (k + 1) 9 : Nat)) (.int (if decide ((1 : Int) < (n : Int)) = true then 1 else 0)) = some (.int (c : Int)) ∧ c ≤ 8 ∧ (c = 0 ∨ 1 < n) := by
    by_cases h : 1 < n
    · refine ⟨mixN ds (k + 1) 9, ?_, by omega, .inr h⟩
      rw [if_pos (decide_eq_true (by omega)), p_mul (by omega) (by decide), Int.mul_one]
    · refine ⟨0, ?_, by omega, .inl rfl⟩
      rw [if_neg (by simpa using (show ¬ (1 : Int) < (n : Int) by omega)), p_mul (by omega) (by decide), Int.mul_zero]; rfl
  simp (implicitDefEqProofs := false) only [turnE_nx, turnE_cnt, rd_0, rd_o, rd_of, rd_s, gO_0, gO_s, gO2_0, gO2_s, bp_nm, bp_tp, bps_nil, bps_cons, bp_eP, v_var, v_int, v_bool, v_str, v_none, v_glb, v_op, v_ch, v_ch3, v_neg, v_not, v_and, v_or, v_b1, v_ife, v_tup, v_lst, v_idx, v_bi, v_call, v_callB, v_rev, v_cut, v_p0, v_p1, vs_nil, vs_cons, f_0, f_1, i_s, i_r1, i_r2, i_e, i_z, v_lc, v_lc2, v_ssc, v_ssc2, v_sst, v_lset, x_nil, x_cons, t_nx, t_brk, t_cnt, t_ret, x_asgF, x_asgT, x_asgp, x_par, sets_nil, sets_cons, x_app, x_ext, x_exp, x_own2, x_newT, x_ret, x_ite, x_for, x_whl, x_frz, fz_o, fz_o2, fz_v, e_rF, e_rT, e_nF, sq_l, sq_t, sx_l, sx_t, sl_l, sq_L, sx_L, sl_L, sq_Ps, sx_Ps, sl_Ps, sq_G, sx_G, sl_G, sx_P, ai, ab, at0, at1, p_add, p_sub, p_lt, p_le, p_gt, p_ge, p_isB, p_isnB, p_isN, p_isnN, y_len, y_lenT, y_lenL, y_lenPs, y_lenG, y_int, y_intB, y_abs, y_min2, y_max2, y_gcd, y_list, y_listL, y_listPs, y_all, wipeE, frE, bib, Option.bind_some, Option.map_some, List.getD_cons_zero, List.getD_cons_succ, List.set_cons_zero, List.set_cons_succ, List.map_cons, List.map_nil, List.length_cons, List.length_nil, List.replicate, List.cons_append, List.nil_append, if_true, if_false, Bool.false_eq_true, Nat.reduceSub, Nat.reduceAdd, Nat.reduceLeDiff, if_le (show 0 < 1000000 by decide), e3, m2, y_intB, hc, rng_ok (show c < 1000000 by omega), Int.toNat_natCast, rng_map]
  have pl : ∀ e2 : Ent, forGo (fun x ρ => exs (CG 100 5) 100 lawP (List.set ρ 6 (.val x))) [6, 7] ((List.range c).map eN) [.val (scriptD ns), .val (eL ds), e2, .val (.int k), .val (.int n), .own [], .no, .no, .no, .no, .no, .no, .no, .no, .no, .no, .no, .no] = _ := P_loop ns ds hd hl k n c hk hc1 h5 hc8
  have ok := psN_ok ds k n c hc1
  have pl8 : (psN ds k n c).length ≤ 8 := by unfold psN; rw [List.length_map, List.length_range]; exact hc8
  rw [pl]
  generalize psN ds k n c = P at ok pl8 ⊢
  have lp : PyData.list (P.map eP) = ePs P := rfl
  have w1 : cal (tabOf fds) 100 5 "_law_whole" [.int n, ePs P] = some (gridD n P) := r_whole 100 4 n P (by omega)
  have w2 : cal (tabOf fds) 100 5 "_law_has_four" [.int n, ePs P] = some (.bool (hasM n P)) := r_law_has_four 100 2 n P h5 (by omega)
  obtain ⟨f1, ⟨o, f2, f3, f4⟩, f5⟩ := g_facts hg5 h1 h5 ok
  have w3 : cal (tabOf fds) 100 5 "is_plain" [gridD n P] = some (.bool (!hasM n P)) := r_is_plain 100 1 n P h1 (by omega) (by omega) ok _ f1
  have w4 : cal (tabOf fds) 100 5 "four_sets" [gridD n P] = some (oG o) := r_four_sets 100 1 n P h1 (by omega) (by omega) ok o f2
  simp (implicitDefEqProofs := false) only [turnE_nx, turnE_cnt, rd_0, rd_o, rd_of, rd_s, gO_0, gO_s, gO2_0, gO2_s, bp_nm, bp_tp, bps_nil, bps_cons, bp_eP, v_var, v_int, v_bool, v_str, v_none, v_glb, v_op, v_ch, v_ch3, v_neg, v_not, v_and, v_or, v_b1, v_ife, v_tup, v_lst, v_idx, v_bi, v_call, v_callB, v_rev, v_cut, v_p0, v_p1, vs_nil, vs_cons, f_0, f_1, i_s, i_r1, i_r2, i_e, i_z, v_lc, v_lc2, v_ssc, v_ssc2, v_sst, v_lset, x_nil, x_cons, t_nx, t_brk, t_cnt, t_ret, x_asgF, x_asgT, x_asgp, x_par, sets_nil, sets_cons, x_app, x_ext, x_exp, x_own2, x_newT, x_ret, x_ite, x_for, x_whl, x_frz, fz_o, fz_o2, fz_v, e_rF, e_rT, e_nF, sq_l, sq_t, sx_l, sx_t, sl_l, sq_L, sx_L, sl_L, sq_Ps, sx_Ps, sl_Ps, sq_G, sx_G, sl_G, sx_P, ai, ab, at0, at1, p_add, p_sub, p_lt, p_le, p_gt, p_ge, p_isB, p_isnB, p_isN, p_isnN, y_len, y_lenT, y_lenL, y_lenPs, y_lenG, y_int, y_intB, y_abs, y_min2, y_max2, y_gcd, y_list, y_listL, y_listPs, y_all, wipeE, frE, bib, Option.bind_some, Option.map_some, List.getD_cons_zero, List.getD_cons_succ, List.set_cons_zero, List.set_cons_succ, List.map_cons, List.map_nil, List.length_cons, List.length_nil, List.replicate, List.cons_append, List.nil_append, if_true, if_false, Bool.false_eq_true, Nat.reduceSub, Nat.reduceAdd, Nat.reduceLeDiff, lp, w1, w2, w3, w4]
  have tl : ∀ e2 e9 e10 : Ent, forGo (fun x ρ => exs (CG 100 5) 100 lawT (List.set ρ 6 (.val x))) [6, 11, 12, 13] ((List.range 8).map eN) [.val (scriptD ns), .val (eL ds), e2, .val (.int k), .val (.int n), .val (ePs P), .no, .no, .val (gridD n P), e9, e10, .no, .no, .no, .no, .no, .no, .no] = _ := T_loop ns ds hd hl k n hk P h1 h5 (by omega) ok
  have r8 : ((8 : Int).toNat) = 8 := rfl
  cases o with
  | some g =>
    have hm : hasM n P = true := by
      have : false = !hasM n P := f3
      revert this
      cases hasM n P <;> simp
    obtain ⟨q1, q2⟩ := f4 g rfl
    obtain ⟨A, B, C, E, rfl⟩ := four_of q1
    obtain ⟨b1, b2⟩ := both n P h1 h5 (by omega) ok [A, B, C, E] (by simp) (by omega)
    rw [q1] at b1 b2
    have og : oG (some [A, B, C, E]) = eG [A, B, C, E] := rfl
    have nn : isNoneD (eG [A, B, C, E]) = false := rfl
    have q2' : A.length + (B.length + (C.length + E.length)) ≤ 5 := by simpa using q2
    have fe : ∀ e2 e3 e9 : Ent, evIt (CG 100 5) false (.seq lawS) [.val (scriptD ns), .val (eL ds), e2, e3, .val (.int n), .val (ePs P), .no, .no, .val (gridD n P), e9, .val (eG [A, B, C, E]), .no, .no, .no, .no, .no, .no, .no] = _ := fun e2 e3 e9 => found_ev n A B C E (by omega) (by omega) (.val (scriptD ns)) (.val (eL ds)) e2 e3 (.val (ePs P)) (.val (gridD n P)) e9
    have fe' : ∀ e2 e3 e9 : Ent, (ev (CG 100 5) false lawS [.val (scriptD ns), .val (eL ds), e2, e3, .val (.int n), .val (ePs P), .no, .no, .val (gridD n P), e9, .val (eG [A, B, C, E]), .no, .no, .no, .no, .no, .no, .no]).bind seqOf = _ := fe
    have fl := fun e2 e3 e9 => found_loop ns ds n P h1 h5 (by omega) ok A B C E q2 e2 e3 e9
    have fl' : ∀ e2 e3 e9 : Ent, forGo (fun x ρ => exs (CG 100 5) 100 lawF (List.set ρ 11 (.val x))) [11] ((toldsF n A B C E).map eG) [.val (scriptD ns), .val (eL ds), e2, e3, .val (.int n), .val (ePs P), .no, .no, .val (gridD n P), e9, .val (eG [A, B, C, E]), .no, .no, .no, .no, .no, .no, .no] = _ := fl
    have ob : op2 .isNot (.bool true) (.bool true) = some (.bool false) := rfl
    simp (implicitDefEqProofs := false) only [turnE_nx, turnE_cnt, rd_0, rd_o, rd_of, rd_s, gO_0, gO_s, gO2_0, gO2_s, bp_nm, bp_tp, bps_nil, bps_cons, bp_eP, v_var, v_int, v_bool, v_str, v_none, v_glb, v_op, v_ch, v_ch3, v_neg, v_not, v_and, v_or, v_b1, v_ife, v_tup, v_lst, v_idx, v_bi, v_call, v_callB, v_rev, v_cut, v_p0, v_p1, vs_nil, vs_cons, f_0, f_1, i_s, i_r1, i_r2, i_e, i_z, v_lc, v_lc2, v_ssc, v_ssc2, v_sst, v_lset, x_nil, x_cons, t_nx, t_brk, t_cnt, t_ret, x_asgF, x_asgT, x_asgp, x_par, sets_nil, sets_cons, x_app, x_ext, x_exp, x_own2, x_newT, x_ret, x_ite, x_for, x_whl, x_frz, fz_o, fz_o2, fz_v, e_rF, e_rT, e_nF, sq_l, sq_t, sx_l, sx_t, sl_l, sq_L, sx_L, sl_L, sq_Ps, sx_Ps, sl_Ps, sq_G, sx_G, sl_G, sx_P, ai, ab, at0, at1, p_add, p_sub, p_lt, p_le, p_gt, p_ge, p_isB, p_isnB, p_isN, p_isnN, y_len, y_lenT, y_lenL, y_lenPs, y_lenG, y_int, y_intB, y_abs, y_min2, y_max2, y_gcd, y_list, y_listL, y_listPs, y_all, wipeE, frE, bib, Option.bind_some, Option.map_some, List.getD_cons_zero, List.getD_cons_succ, List.set_cons_zero, List.set_cons_succ, List.map_cons, List.map_nil, List.length_cons, List.length_nil, List.replicate, List.cons_append, List.nil_append, if_true, if_false, Bool.false_eq_true, Nat.reduceSub, Nat.reduceAdd, Nat.reduceLeDiff, hm, og, nn, o_eqB, Bool.not_true, Bool.not_false, b1, b2, ob, show (false == true) = false from rfl, r8, show rngOk 8 = true from rfl, rng_map, tl, fe', fl']
  | none =>
    have hm : hasM n P = false := by
      have : true = !hasM n P := f3
      revert this
      cases hasM n P <;> simp
    have og : oG none = .none := rfl
    have nn : isNoneD .none = true := rfl
    simp (implicitDefEqProofs := false) only [turnE_nx, turnE_cnt, rd_0, rd_o, rd_of, rd_s, gO_0, gO_s, gO2_0, gO2_s, bp_nm, bp_tp, bps_nil, bps_cons, bp_eP, v_var, v_int, v_bool, v_str, v_none, v_glb, v_op, v_ch, v_ch3, v_neg, v_not, v_and, v_or, v_b1, v_ife, v_tup, v_lst, v_idx, v_bi, v_call, v_callB, v_rev, v_cut, v_p0, v_p1, vs_nil, vs_cons, f_0, f_1, i_s, i_r1, i_r2, i_e, i_z, v_lc, v_lc2, v_ssc, v_ssc2, v_sst, v_lset, x_nil, x_cons, t_nx, t_brk, t_cnt, t_ret, x_asgF, x_asgT, x_asgp, x_par, sets_nil, sets_cons, x_app, x_ext, x_exp, x_own2, x_newT, x_ret, x_ite, x_for, x_whl, x_frz, fz_o, fz_o2, fz_v, e_rF, e_rT, e_nF, sq_l, sq_t, sx_l, sx_t, sl_l, sq_L, sx_L, sl_L, sq_Ps, sx_Ps, sl_Ps, sq_G, sx_G, sl_G, sx_P, ai, ab, at0, at1, p_add, p_sub, p_lt, p_le, p_gt, p_ge, p_isB, p_isnB, p_isN, p_isnN, y_len, y_lenT, y_lenL, y_lenPs, y_lenG, y_int, y_intB, y_abs, y_min2, y_max2, y_gcd, y_list, y_listL, y_listPs, y_all, wipeE, frE, bib, Option.bind_some, Option.map_some, List.getD_cons_zero, List.getD_cons_succ, List.set_cons_zero, List.set_cons_succ, List.map_cons, List.map_nil, List.length_cons, List.length_nil, List.replicate, List.cons_append, List.nil_append, if_true, if_false, Bool.false_eq_true, Nat.reduceSub, Nat.reduceAdd, Nat.reduceLeDiff, hm, og, nn, o_eqB, Bool.not_true, Bool.not_false, show (true == false) = false from rfl, r8, show rngOk 8 = true from rfl, rng_map, tl, if_le (show 0 < 1000000 by decide), show op2 .ne (ePs P) (.list []) = some (.bool !(P.map eP).isEmpty) from o_neNil (sh_Ps P)]
    cases hP : P with
    | nil => simp (implicitDefEqProofs := false) only [turnE_nx, turnE_cnt, rd_0, rd_o, rd_of, rd_s, gO_0, gO_s, gO2_0, gO2_s, bp_nm, bp_tp, bps_nil, bps_cons, bp_eP, v_var, v_int, v_bool, v_str, v_none, v_glb, v_op, v_ch, v_ch3, v_neg, v_not, v_and, v_or, v_b1, v_ife, v_tup, v_lst, v_idx, v_bi, v_call, v_callB, v_rev, v_cut, v_p0, v_p1, vs_nil, vs_cons, f_0, f_1, i_s, i_r1, i_r2, i_e, i_z, v_lc, v_lc2, v_ssc, v_ssc2, v_sst, v_lset, x_nil, x_cons, t_nx, t_brk, t_cnt, t_ret, x_asgF, x_asgT, x_asgp, x_par, sets_nil, sets_cons, x_app, x_ext, x_exp, x_own2, x_newT, x_ret, x_ite, x_for, x_whl, x_frz, fz_o, fz_o2, fz_v, e_rF, e_rT, e_nF, sq_l, sq_t, sx_l, sx_t, sl_l, sq_L, sx_L, sl_L, sq_Ps, sx_Ps, sl_Ps, sq_G, sx_G, sl_G, sx_P, ai, ab, at0, at1, p_add, p_sub, p_lt, p_le, p_gt, p_ge, p_isB, p_isnB, p_isN, p_isnN, y_len, y_lenT, y_lenL, y_lenPs, y_lenG, y_int, y_intB, y_abs, y_min2, y_max2, y_gcd, y_list, y_listL, y_listPs, y_all, wipeE, frE, bib, Option.bind_some, Option.map_some, List.getD_cons_zero, List.getD_cons_succ, List.set_cons_zero, List.set_cons_succ, List.map_cons, List.map_nil, List.length_cons, List.length_nil, List.replicate, List.cons_append, List.nil_append, if_true, if_false, Bool.false_eq_true, Nat.reduceSub, Nat.reduceAdd, Nat.reduceLeDiff, List.isEmpty_nil, Bool.not_true]
    | cons p0 rest =>
      rw [← hP]
      have pos : 0 < P.length := by rw [hP]; exact Nat.succ_pos _
      have e4 : (k : Int) + 21 = ((k + 21 : Nat) : Int) := rfl
      have m3 : cal (tabOf fds) 100 5 "_law_mix" [eL ds, .int ((k + 21 : Nat) : Int), .int (P.length : Int)] = some (.int (mixN ds (k + 21) P.length : Nat)) := r_law_mix 100 4 ds _ _ hd hl (by omega) pos (by omega)
      have em : (P.map eP).isEmpty = false := by rw [hP]; rfl
      have ml3 := mix_lt ds (k + 21) pos
      generalize mixN ds (k + 21) P.length = at' at m3 ml3
      have e5 : (at' : Int) + 1 = ((at' + 1 : Nat) : Int) := rfl
      have c1 : cutD (P.map eP) none (some (at' : Int)) = (P.take at').map eP := cut_to eP P at'
      have c2 : cutD (P.map eP) (some ((at' + 1 : Nat) : Int)) none = (P.drop (at' + 1)).map eP := cut_from eP P (at' + 1)
      have q1 : op2 .add (.list ((P.take at').map eP)) (.list ((P.drop (at' + 1)).map eP)) = some (ePs (P.take at' ++ P.drop (at' + 1))) := by
        have := o_catPs (P.take at') (P.drop (at' + 1))
        rw [if_le (by rw [List.length_take, List.length_drop]; omega)] at this
        exact this
      have ok2 : okPs n (P.take at' ++ P.drop (at' + 1)) := fun p hp => by
        rcases List.mem_append.mp hp with h | h
        · exact ok p (List.mem_of_mem_take h)
        · exact ok p (List.mem_of_mem_drop h)
      have len2 : (P.take at' ++ P.drop (at' + 1)).length ≤ 8 := by
        rw [List.length_append, List.length_take, List.length_drop]; omega
      have w5 : cal (tabOf fds) 100 5 "_law_whole" [.int n, ePs (P.take at' ++ P.drop (at' + 1))] = some (gridD n (P.take at' ++ P.drop (at' + 1))) := r_whole 100 4 n _ (by omega)
      have w6 : cal (tabOf fds) 100 5 "is_plain" [gridD n (P.take at' ++ P.drop (at' + 1))] = some (.bool true) := r_is_plain 100 1 n _ h1 (by omega) (by omega) ok2 _ (f5 hm at')
      simp (implicitDefEqProofs := false) only [turnE_nx, turnE_cnt, rd_0, rd_o, rd_of, rd_s, gO_0, gO_s, gO2_0, gO2_s, bp_nm, bp_tp, bps_nil, bps_cons, bp_eP, v_var, v_int, v_bool, v_str, v_none, v_glb, v_op, v_ch, v_ch3, v_neg, v_not, v_and, v_or, v_b1, v_ife, v_tup, v_lst, v_idx, v_bi, v_call, v_callB, v_rev, v_cut, v_p0, v_p1, vs_nil, vs_cons, f_0, f_1, i_s, i_r1, i_r2, i_e, i_z, v_lc, v_lc2, v_ssc, v_ssc2, v_sst, v_lset, x_nil, x_cons, t_nx, t_brk, t_cnt, t_ret, x_asgF, x_asgT, x_asgp, x_par, sets_nil, sets_cons, x_app, x_ext, x_exp, x_own2, x_newT, x_ret, x_ite, x_for, x_whl, x_frz, fz_o, fz_o2, fz_v, e_rF, e_rT, e_nF, sq_l, sq_t, sx_l, sx_t, sl_l, sq_L, sx_L, sl_L, sq_Ps, sx_Ps, sl_Ps, sq_G, sx_G, sl_G, sx_P, ai, ab, at0, at1, p_add, p_sub, p_lt, p_le, p_gt, p_ge, p_isB, p_isnB, p_isN, p_isnN, y_len, y_lenT, y_lenL, y_lenPs, y_lenG, y_int, y_intB, y_abs, y_min2, y_max2, y_gcd, y_list, y_listL, y_listPs, y_all, wipeE, frE, bib, Option.bind_some, Option.map_some, List.getD_cons_zero, List.getD_cons_succ, List.set_cons_zero, List.set_cons_succ, List.map_cons, List.map_nil, List.length_cons, List.length_nil, List.replicate, List.cons_append, List.nil_append, if_true, if_false, Bool.false_eq_true, Nat.reduceSub, Nat.reduceAdd, Nat.reduceLeDiff, em, Bool.not_false, e4, m3, e5, c1, c2, q1, w5, w6, Bool.not_true]
end K19

set_option Elab.async false
set_option linter.all false
set_option maxRecDepth 100000
set_option maxHeartbeats 4000000
namespace K19
open PySem Pv
theorem r_law (hg5 : (subs (allE 5)).all (gOk 5) = true) (ns : List Int) (hn : ns.length ≤ 63) : cal (tabOf fds) 100 6 "law" [scriptD ns] = some (.bool true) := by
  rw [c_law 100 5 _ rfl, b_law_eq]
  have dk := draws_ok ns
  have hl : (drawsN ns).length < 100000 := by have := dk.1; omega
  have hd := dk.2
  have w1 : cal (tabOf fds) 100 5 "_law_draws" [scriptD ns] = some (eL (drawsN ns)) := r_law_draws 100 4 ns (by omega)
  generalize drawsN ns = ds at hl hd w1
  have l1 : forGo (fun x ρ => (bindPat (.nm 2) x ρ).bind fun ρ1 => exs (CG 100 5) 100 lawB1 ρ1) [2, 3, 4, 5, 6, 7, 8, 9, 10, 11, 12, 13, 14] ((List.range 2).map eN) (en2 ns ds) = some (.nx, en2 ns ds) := forGo_c _ _ eN _ _ fun t ht => B1_turn hg5 ns ds hd hl t (List.mem_range.mp ht)
  have l2 : forGo (fun x ρ => (bindPat (.nm 15) x ρ).bind fun ρ1 => exs (CG 100 5) 100 lawB2 ρ1) [15, 4, 5, 16, 17, 8] ((List.range 8).map eN) (en2 ns ds) = some (.nx, en2 ns ds) := forGo_c _ _ eN _ _ fun t ht => r_kind ns ds hd hl t (List.mem_range.mp ht)
  have l1' : forGo (fun x ρ => exs (CG 100 5) 100 lawB1 (List.set ρ 2 (.val x))) [2, 3, 4, 5, 6, 7, 8, 9, 10, 11, 12, 13, 14] ((List.range 2).map eN) [.val (scriptD ns), .val (eL ds), .no, .no, .no, .no, .no, .no, .no, .no, .no, .no, .no, .no, .no, .no, .no, .no] = some (.nx, [.val (scriptD ns), .val (eL ds), .no, .no, .no, .no, .no, .no, .no, .no, .no, .no, .no, .no, .no, .no, .no, .no]) := l1
  have l2' : forGo (fun x ρ => exs (CG 100 5) 100 lawB2 (List.set ρ 15 (.val x))) [15, 4, 5, 16, 17, 8] ((List.range 8).map eN) [.val (scriptD ns), .val (eL ds), .no, .no, .no, .no, .no, .no, .no, .no, .no, .no, .no, .no, .no, .no, .no, .no] = some (.nx, [.val (scriptD ns), .val (eL ds), .no, .no, .no, .no, .no, .no, .no, .no, .no, .no, .no, .no, .no, .no, .no, .no]) := l2
  simp (implicitDefEqProofs := false) only [turnE_nx, turnE_cnt, rd_0, rd_o, rd_of, rd_s, gO_0, gO_s, gO2_0, gO2_s, bp_nm, bp_tp, bps_nil, bps_cons, bp_eP, v_var, v_int, v_bool, v_str, v_none, v_glb, v_op, v_ch, v_ch3, v_neg, v_not, v_and, v_or, v_b1, v_ife, v_tup, v_lst, v_idx, v_bi, v_call, v_callB, v_rev, v_cut, v_p0, v_p1, vs_nil, vs_cons, f_0, f_1, i_s, i_r1, i_r2, i_e, i_z, v_lc, v_lc2, v_ssc, v_ssc2, v_sst, v_lset, x_nil, x_cons, t_nx, t_brk, t_cnt, t_ret, x_asgF, x_asgT, x_asgp, x_par, sets_nil, sets_cons, x_app, x_ext, x_exp, x_own2, x_newT, x_ret, x_ite, x_for, x_whl, x_frz, fz_o, fz_o2, fz_v, e_rF, e_rT, e_nF, sq_l, sq_t, sx_l, sx_t, sl_l, sq_L, sx_L, sl_L, sq_Ps, sx_Ps, sl_Ps, sq_G, sx_G, sl_G, sx_P, ai, ab, at0, at1, p_add, p_sub, p_lt, p_le, p_gt, p_ge, p_isB, p_isnB, p_isN, p_isnN, y_len, y_lenT, y_lenL, y_lenPs, y_lenG, y_int, y_intB, y_abs, y_min2, y_max2, y_gcd, y_list, y_listL, y_listPs, y_all, wipeE, frE, bib, Option.bind_some, Option.map_some, List.getD_cons_zero, List.getD_cons_succ, List.set_cons_zero, List.set_cons_succ, List.map_cons, List.map_nil, List.length_cons, List.length_nil, List.replicate, List.cons_append, List.nil_append, if_true, if_false, Bool.false_eq_true, Nat.reduceSub, Nat.reduceAdd, Nat.reduceLeDiff, w1, show rngOk 2 = true from rfl, show rngOk 8 = true from rfl, show (2 : Int).toNat = 2 from rfl, show (8 : Int).toNat = 8 from rfl, rng_map, l1', l2']
end K19

set_option Elab.async false
set_option linter.all false
set_option maxRecDepth 100000
set_option maxHeartbeats 4000000
namespace K19
open PySem PySem.Spec PyProof.Rows L2 Pv
theorem ok_is_fraction : chkFD sg f_is_fraction = true := by decide +kernel
theorem ok_is_line : chkFD sg f_is_line = true := by decide +kernel
theorem ok_check_grid : chkFD sg f_check_grid = true := by decide +kernel
theorem ok_joined_with : chkFD sg f_joined_with = true := by decide +kernel
theorem ok_pairs_of : chkFD sg f_pairs_of = true := by decide +kernel
theorem ok_ends_of : chkFD sg f_ends_of = true := by decide +kernel
theorem ok_worn : chkFD sg f_worn = true := by decide +kernel
theorem ok_lines_of : chkFD sg f_lines_of = true := by decide +kernel
theorem ok_is_plain : chkFD sg f_is_plain = true := by decide +kernel
theorem ok_fewer : chkFD sg f_fewer = true := by decide +kernel
theorem ok_four_sets : chkFD sg f_four_sets = true := by decide +kernel
theorem ok_are_four_sets : chkFD sg f_are_four_sets = true := by decide +kernel
theorem ok_law_draws : chkFD sg f_law_draws = true := by decide +kernel
theorem ok_law_mix : chkFD sg f_law_mix = true := by decide +kernel
theorem ok_law_joined : chkFD sg f_law_joined = true := by decide +kernel
theorem ok_law_are_four : chkFD sg f_law_are_four = true := by decide +kernel
theorem ok_law_has_four : chkFD sg f_law_has_four = true := by decide +kernel
theorem ok_law_form : chkFD sg f_law_form = true := by decide +kernel
theorem ok_law_whole : chkFD sg f_law_whole = true := by decide +kernel
theorem ok_law : chkFD sg f_law = true := by decide +kernel
theorem fds_ok : ∀ f ∈ fds, chkFD sg f = true := by
  unfold fds
  intro f hf
  repeat (rcases List.mem_cons.mp hf with rfl | hf; · first | exact ok_is_fraction | exact ok_is_line | exact ok_check_grid | exact ok_joined_with | exact ok_pairs_of | exact ok_ends_of | exact ok_worn | exact ok_lines_of | exact ok_is_plain | exact ok_fewer | exact ok_four_sets | exact ok_are_four_sets | exact ok_law_draws | exact ok_law_mix | exact ok_law_joined | exact ok_law_are_four | exact ok_law_has_four | exact ok_law_form | exact ok_law_whole | exact ok_law)
  exact absurd hf (by simp)
theorem sub_ok : ∀ n ∈ sg.fs, ∃ f ∈ fds, f.nm = n := by
  have h : (sg.fs.all fun n => fds.any fun f => decide (f.nm = n)) = true := by decide +kernel
  intro n hn
  obtain ⟨f, hf, e⟩ := List.any_eq_true.mp (List.all_eq_true.mp h n hn)
  exact ⟨f, hf, of_decide_eq_true e⟩
theorem all_mk {l : PySem.W.OpenLaw} {w : World} {K : PySem.W.Frag} {h : Heap} {mg : Str → Option Value} {fa q0 q1 q2 q3 q4 q5 q6 q7 q8 q9 q10 q11 q12 q13 q14 q15 q16 q17 q18 q19 : Addr} (X : K.In h) (G : h.Ns mainGlobals mg) (hfa : mg "law" = some (.ref fa))
    {od0 an0 : Option Addr} {sl0 : Array (Option Value)} {oc0 kV0 dc0 pm0 cd0 ct0 : Value}
    {od1 an1 : Option Addr} {sl1 : Array (Option Value)} {oc1 kV1 dc1 pm1 cd1 ct1 : Value}
    {od2 an2 : Option Addr} {sl2 : Array (Option Value)} {oc2 kV2 dc2 pm2 cd2 ct2 : Value}
    {od3 an3 : Option Addr} {sl3 : Array (Option Value)} {oc3 kV3 dc3 pm3 cd3 ct3 : Value}
    {od4 an4 : Option Addr} {sl4 : Array (Option Value)} {oc4 kV4 dc4 pm4 cd4 ct4 : Value}
    {od5 an5 : Option Addr} {sl5 : Array (Option Value)} {oc5 kV5 dc5 pm5 cd5 ct5 : Value}
    {od6 an6 : Option Addr} {sl6 : Array (Option Value)} {oc6 kV6 dc6 pm6 cd6 ct6 : Value}
    {od7 an7 : Option Addr} {sl7 : Array (Option Value)} {oc7 kV7 dc7 pm7 cd7 ct7 : Value}
    {od8 an8 : Option Addr} {sl8 : Array (Option Value)} {oc8 kV8 dc8 pm8 cd8 ct8 : Value}
    {od9 an9 : Option Addr} {sl9 : Array (Option Value)} {oc9 kV9 dc9 pm9 cd9 ct9 : Value}
    {od10 an10 : Option Addr} {sl10 : Array (Option Value)} {oc10 kV10 dc10 pm10 cd10 ct10 : Value}
    {od11 an11 : Option Addr} {sl11 : Array (Option Value)} {oc11 kV11 dc11 pm11 cd11 ct11 : Value}
    {od12 an12 : Option Addr} {sl12 : Array (Option Value)} {oc12 kV12 dc12 pm12 cd12 ct12 : Value}
    {od13 an13 : Option Addr} {sl13 : Array (Option Value)} {oc13 kV13 dc13 pm13 cd13 ct13 : Value}
    {od14 an14 : Option Addr} {sl14 : Array (Option Value)} {oc14 kV14 dc14 pm14 cd14 ct14 : Value}
    {od15 an15 : Option Addr} {sl15 : Array (Option Value)} {oc15 kV15 dc15 pm15 cd15 ct15 : Value}
    {od16 an16 : Option Addr} {sl16 : Array (Option Value)} {oc16 kV16 dc16 pm16 cd16 ct16 : Value}
    {od17 an17 : Option Addr} {sl17 : Array (Option Value)} {oc17 kV17 dc17 pm17 cd17 ct17 : Value}
    {od18 an18 : Option Addr} {sl18 : Array (Option Value)} {oc18 kV18 dc18 pm18 cd18 ct18 : Value}
    {od19 an19 : Option Addr} {sl19 : Array (Option Value)} {oc19 kV19 dc19 pm19 cd19 ct19 : Value}
    (a0 : PySem.W.nsIn K mainGlobals "is_fraction" = some (some (.ref q0))) (l0 : K.lookup q0 = some ⟨oc0, od0, .func (PySem.W.fnOf "is_fraction" "is_fraction" (defArgs f_is_fraction.st) (defBody f_is_fraction.st) (defScope f_is_fraction.st) .none kV0 dc0 pm0 an0 cd0 ct0), sl0⟩) (c0 : PySem.W.codeIn K cd0 "is_fraction" = true) (k0 : PySem.W.keepIn K (.ref q0) = true)
    (a1 : PySem.W.nsIn K mainGlobals "is_line" = some (some (.ref q1))) (l1 : K.lookup q1 = some ⟨oc1, od1, .func (PySem.W.fnOf "is_line" "is_line" (defArgs f_is_line.st) (defBody f_is_line.st) (defScope f_is_line.st) .none kV1 dc1 pm1 an1 cd1 ct1), sl1⟩) (c1 : PySem.W.codeIn K cd1 "is_line" = true) (k1 : PySem.W.keepIn K (.ref q1) = true)
    (a2 : PySem.W.nsIn K mainGlobals "check_grid" = some (some (.ref q2))) (l2 : K.lookup q2 = some ⟨oc2, od2, .func (PySem.W.fnOf "check_grid" "check_grid" (defArgs f_check_grid.st) (defBody f_check_grid.st) (defScope f_check_grid.st) .none kV2 dc2 pm2 an2 cd2 ct2), sl2⟩) (c2 : PySem.W.codeIn K cd2 "check_grid" = true) (k2 : PySem.W.keepIn K (.ref q2) = true)
    (a3 : PySem.W.nsIn K mainGlobals "joined_with" = some (some (.ref q3))) (l3 : K.lookup q3 = some ⟨oc3, od3, .func (PySem.W.fnOf "joined_with" "joined_with" (defArgs f_joined_with.st) (defBody f_joined_with.st) (defScope f_joined_with.st) .none kV3 dc3 pm3 an3 cd3 ct3), sl3⟩) (c3 : PySem.W.codeIn K cd3 "joined_with" = true) (k3 : PySem.W.keepIn K (.ref q3) = true)
    (a4 : PySem.W.nsIn K mainGlobals "pairs_of" = some (some (.ref q4))) (l4 : K.lookup q4 = some ⟨oc4, od4, .func (PySem.W.fnOf "pairs_of" "pairs_of" (defArgs f_pairs_of.st) (defBody f_pairs_of.st) (defScope f_pairs_of.st) .none kV4 dc4 pm4 an4 cd4 ct4), sl4⟩) (c4 : PySem.W.codeIn K cd4 "pairs_of" = true) (k4 : PySem.W.keepIn K (.ref q4) = true)
    (a5 : PySem.W.nsIn K mainGlobals "ends_of" = some (some (.ref q5))) (l5 : K.lookup q5 = some ⟨oc5, od5, .func (PySem.W.fnOf "ends_of" "ends_of" (defArgs f_ends_of.st) (defBody f_ends_of.st) (defScope f_ends_of.st) .none kV5 dc5 pm5 an5 cd5 ct5), sl5⟩) (c5 : PySem.W.codeIn K cd5 "ends_of" = true) (k5 : PySem.W.keepIn K (.ref q5) = true)
    (a6 : PySem.W.nsIn K mainGlobals "worn" = some (some (.ref q6))) (l6 : K.lookup q6 = some ⟨oc6, od6, .func (PySem.W.fnOf "worn" "worn" (defArgs f_worn.st) (defBody f_worn.st) (defScope f_worn.st) .none kV6 dc6 pm6 an6 cd6 ct6), sl6⟩) (c6 : PySem.W.codeIn K cd6 "worn" = true) (k6 : PySem.W.keepIn K (.ref q6) = true)
    (a7 : PySem.W.nsIn K mainGlobals "lines_of" = some (some (.ref q7))) (l7 : K.lookup q7 = some ⟨oc7, od7, .func (PySem.W.fnOf "lines_of" "lines_of" (defArgs f_lines_of.st) (defBody f_lines_of.st) (defScope f_lines_of.st) .none kV7 dc7 pm7 an7 cd7 ct7), sl7⟩) (c7 : PySem.W.codeIn K cd7 "lines_of" = true) (k7 : PySem.W.keepIn K (.ref q7) = true)
    (a8 : PySem.W.nsIn K mainGlobals "is_plain" = some (some (.ref q8))) (l8 : K.lookup q8 = some ⟨oc8, od8, .func (PySem.W.fnOf "is_plain" "is_plain" (defArgs f_is_plain.st) (defBody f_is_plain.st) (defScope f_is_plain.st) .none kV8 dc8 pm8 an8 cd8 ct8), sl8⟩) (c8 : PySem.W.codeIn K cd8 "is_plain" = true) (k8 : PySem.W.keepIn K (.ref q8) = true)
    (a9 : PySem.W.nsIn K mainGlobals "fewer" = some (some (.ref q9))) (l9 : K.lookup q9 = some ⟨oc9, od9, .func (PySem.W.fnOf "fewer" "fewer" (defArgs f_fewer.st) (defBody f_fewer.st) (defScope f_fewer.st) .none kV9 dc9 pm9 an9 cd9 ct9), sl9⟩) (c9 : PySem.W.codeIn K cd9 "fewer" = true) (k9 : PySem.W.keepIn K (.ref q9) = true)
    (a10 : PySem.W.nsIn K mainGlobals "four_sets" = some (some (.ref q10))) (l10 : K.lookup q10 = some ⟨oc10, od10, .func (PySem.W.fnOf "four_sets" "four_sets" (defArgs f_four_sets.st) (defBody f_four_sets.st) (defScope f_four_sets.st) .none kV10 dc10 pm10 an10 cd10 ct10), sl10⟩) (c10 : PySem.W.codeIn K cd10 "four_sets" = true) (k10 : PySem.W.keepIn K (.ref q10) = true)
    (a11 : PySem.W.nsIn K mainGlobals "are_four_sets" = some (some (.ref q11))) (l11 : K.lookup q11 = some ⟨oc11, od11, .func (PySem.W.fnOf "are_four_sets" "are_four_sets" (defArgs f_are_four_sets.st) (defBody f_are_four_sets.st) (defScope f_are_four_sets.st) .none kV11 dc11 pm11 an11 cd11 ct11), sl11⟩) (c11 : PySem.W.codeIn K cd11 "are_four_sets" = true) (k11 : PySem.W.keepIn K (.ref q11) = true)
    (a12 : PySem.W.nsIn K mainGlobals "_law_draws" = some (some (.ref q12))) (l12 : K.lookup q12 = some ⟨oc12, od12, .func (PySem.W.fnOf "_law_draws" "_law_draws" (defArgs f_law_draws.st) (defBody f_law_draws.st) (defScope f_law_draws.st) .none kV12 dc12 pm12 an12 cd12 ct12), sl12⟩) (c12 : PySem.W.codeIn K cd12 "_law_draws" = true) (k12 : PySem.W.keepIn K (.ref q12) = true)
    (a13 : PySem.W.nsIn K mainGlobals "_law_mix" = some (some (.ref q13))) (l13 : K.lookup q13 = some ⟨oc13, od13, .func (PySem.W.fnOf "_law_mix" "_law_mix" (defArgs f_law_mix.st) (defBody f_law_mix.st) (defScope f_law_mix.st) .none kV13 dc13 pm13 an13 cd13 ct13), sl13⟩) (c13 : PySem.W.codeIn K cd13 "_law_mix" = true) (k13 : PySem.W.keepIn K (.ref q13) = true)
    (a14 : PySem.W.nsIn K mainGlobals "_law_joined" = some (some (.ref q14))) (l14 : K.lookup q14 = some ⟨oc14, od14, .func (PySem.W.fnOf "_law_joined" "_law_joined" (defArgs f_law_joined.st) (defBody f_law_joined.st) (defScope f_law_joined.st) .none kV14 dc14 pm14 an14 cd14 ct14), sl14⟩) (c14 : PySem.W.codeIn K cd14 "_law_joined" = true) (k14 : PySem.W.keepIn K (.ref q14) = true)
    (a15 : PySem.W.nsIn K mainGlobals "_law_are_four" = some (some (.ref q15))) (l15 : K.lookup q15 = some ⟨oc15, od15, .func (PySem.W.fnOf "_law_are_four" "_law_are_four" (defArgs f_law_are_four.st) (defBody f_law_are_four.st) (defScope f_law_are_four.st) .none kV15 dc15 pm15 an15 cd15 ct15), sl15⟩) (c15 : PySem.W.codeIn K cd15 "_law_are_four" = true) (k15 : PySem.W.keepIn K (.ref q15) = true)
    (a16 : PySem.W.nsIn K mainGlobals "_law_has_four" = some (some (.ref q16))) (l16 : K.lookup q16 = some ⟨oc16, od16, .func (PySem.W.fnOf "_law_has_four" "_law_has_four" (defArgs f_law_has_four.st) (defBody f_law_has_four.st) (defScope f_law_has_four.st) .none kV16 dc16 pm16 an16 cd16 ct16), sl16⟩) (c16 : PySem.W.codeIn K cd16 "_law_has_four" = true) (k16 : PySem.W.keepIn K (.ref q16) = true)
    (a17 : PySem.W.nsIn K mainGlobals "_law_form" = some (some (.ref q17))) (l17 : K.lookup q17 = some ⟨oc17, od17, .func (PySem.W.fnOf "_law_form" "_law_form" (defArgs f_law_form.st) (defBody f_law_form.st) (defScope f_law_form.st) .none kV17 dc17 pm17 an17 cd17 ct17), sl17⟩) (c17 : PySem.W.codeIn K cd17 "_law_form" = true) (k17 : PySem.W.keepIn K (.ref q17) = true)
    (a18 : PySem.W.nsIn K mainGlobals "_law_whole" = some (some (.ref q18))) (l18 : K.lookup q18 = some ⟨oc18, od18, .func (PySem.W.fnOf "_law_whole" "_law_whole" (defArgs f_law_whole.st) (defBody f_law_whole.st) (defScope f_law_whole.st) .none kV18 dc18 pm18 an18 cd18 ct18), sl18⟩) (c18 : PySem.W.codeIn K cd18 "_law_whole" = true) (k18 : PySem.W.keepIn K (.ref q18) = true)
    (a19 : PySem.W.nsIn K mainGlobals "law" = some (some (.ref q19))) (l19 : K.lookup q19 = some ⟨oc19, od19, .func (PySem.W.fnOf "law" "law" (defArgs f_law.st) (defBody f_law.st) (defScope f_law.st) .none kV19 dc19 pm19 an19 cd19 ct19), sl19⟩) (c19 : PySem.W.codeIn K cd19 "law" = true) (k19 : PySem.W.keepIn K (.ref q19) = true)
    (z0 : PySem.W.nsIn K mainGlobals "len" = some none)
    (z1 : PySem.W.nsIn K mainGlobals "abs" = some none)
    (z2 : PySem.W.nsIn K mainGlobals "int" = some none)
    (z3 : PySem.W.nsIn K mainGlobals "min" = some none)
    (z4 : PySem.W.nsIn K mainGlobals "max" = some none)
    (z5 : PySem.W.nsIn K mainGlobals "list" = some none)
    (z6 : PySem.W.nsIn K mainGlobals "all" = some none)
    (z7 : PySem.W.nsIn K mainGlobals "any" = some none)
    (z8 : PySem.W.nsIn K mainGlobals "sum" = some none)
    (z9 : PySem.W.nsIn K mainGlobals "sorted" = some none)
    (z10 : PySem.W.nsIn K mainGlobals "range" = some none)
    (z11 : PySem.W.nsIn K mainGlobals "enumerate" = some none)
    (z12 : PySem.W.nsIn K mainGlobals "zip" = some none)
    (z13 : PySem.W.nsIn K mainGlobals "set" = some none)
    (g : PySem.W.nsIn K mainGlobals "gcd" = some (some (.builtin "math.gcd")))
    {t0 : Tok} (y0 : PySem.W.nsIn K mainGlobals "MOST_LINES" = some (some (.int 14 t0)))
    {t1 : Tok} (y1 : PySem.W.nsIn K mainGlobals "MOST_NODES" = some (some (.int 8 t1)))
    : ∃ fd : FuncData, (∀ (s : Shared) (v : Value), BindsTo s fd ⟨[v], []⟩ [("script", v)]) ∧ ∀ base : Heap, K.In base → base.Ns mainGlobals mg → FnOk l.prog w K mg base CX0 6 fa fd ["script"] (spLaw K) := by
  have e := hfa.symm.trans (PySem.W.mg_of X G a19)
  cases e
  have F0 : Fun K f_is_fraction.nm f_is_fraction.nm f_is_fraction.st _ _ := fun_mk (st := f_is_fraction.st) l0 c0 k0
  have b0 := F0.binds (ps := f_is_fraction.ps) fun _ _ _ _ _ _ us hl => match us, hl with | [_], _ => rfl
  have F1 : Fun K f_is_line.nm f_is_line.nm f_is_line.st _ _ := fun_mk (st := f_is_line.st) l1 c1 k1
  have b1 := F1.binds (ps := f_is_line.ps) fun _ _ _ _ _ _ us hl => match us, hl with | [_, _], _ => rfl
  have F2 : Fun K f_check_grid.nm f_check_grid.nm f_check_grid.st _ _ := fun_mk (st := f_check_grid.st) l2 c2 k2
  have b2 := F2.binds (ps := f_check_grid.ps) fun _ _ _ _ _ _ us hl => match us, hl with | [_], _ => rfl
  have F3 : Fun K f_joined_with.nm f_joined_with.nm f_joined_with.st _ _ := fun_mk (st := f_joined_with.st) l3 c3 k3
  have b3 := F3.binds (ps := f_joined_with.ps) fun _ _ _ _ _ _ us hl => match us, hl with | [_, _], _ => rfl
  have F4 : Fun K f_pairs_of.nm f_pairs_of.nm f_pairs_of.st _ _ := fun_mk (st := f_pairs_of.st) l4 c4 k4
  have b4 := F4.binds (ps := f_pairs_of.ps) fun _ _ _ _ _ _ us hl => match us, hl with | [_, _], _ => rfl
  have F5 : Fun K f_ends_of.nm f_ends_of.nm f_ends_of.st _ _ := fun_mk (st := f_ends_of.st) l5 c5 k5
  have b5 := F5.binds (ps := f_ends_of.ps) fun _ _ _ _ _ _ us hl => match us, hl with | [_, _], _ => rfl
  have F6 : Fun K f_worn.nm f_worn.nm f_worn.st _ _ := fun_mk (st := f_worn.st) l6 c6 k6
  have b6 := F6.binds (ps := f_worn.ps) fun _ _ _ _ _ _ us hl => match us, hl with | [_], _ => rfl
  have F7 : Fun K f_lines_of.nm f_lines_of.nm f_lines_of.st _ _ := fun_mk (st := f_lines_of.st) l7 c7 k7
  have b7 := F7.binds (ps := f_lines_of.ps) fun _ _ _ _ _ _ us hl => match us, hl with | [_], _ => rfl
  have F8 : Fun K f_is_plain.nm f_is_plain.nm f_is_plain.st _ _ := fun_mk (st := f_is_plain.st) l8 c8 k8
  have b8 := F8.binds (ps := f_is_plain.ps) fun _ _ _ _ _ _ us hl => match us, hl with | [_], _ => rfl
  have F9 : Fun K f_fewer.nm f_fewer.nm f_fewer.st _ _ := fun_mk (st := f_fewer.st) l9 c9 k9
  have b9 := F9.binds (ps := f_fewer.ps) fun _ _ _ _ _ _ us hl => match us, hl with | [_, _], _ => rfl
  have F10 : Fun K f_four_sets.nm f_four_sets.nm f_four_sets.st _ _ := fun_mk (st := f_four_sets.st) l10 c10 k10
  have b10 := F10.binds (ps := f_four_sets.ps) fun _ _ _ _ _ _ us hl => match us, hl with | [_], _ => rfl
  have F11 : Fun K f_are_four_sets.nm f_are_four_sets.nm f_are_four_sets.st _ _ := fun_mk (st := f_are_four_sets.st) l11 c11 k11
  have b11 := F11.binds (ps := f_are_four_sets.ps) fun _ _ _ _ _ _ us hl => match us, hl with | [_, _], _ => rfl
  have F12 : Fun K f_law_draws.nm f_law_draws.nm f_law_draws.st _ _ := fun_mk (st := f_law_draws.st) l12 c12 k12
  have b12 := F12.binds (ps := f_law_draws.ps) fun _ _ _ _ _ _ us hl => match us, hl with | [_], _ => rfl
  have F13 : Fun K f_law_mix.nm f_law_mix.nm f_law_mix.st _ _ := fun_mk (st := f_law_mix.st) l13 c13 k13
  have b13 := F13.binds (ps := f_law_mix.ps) fun _ _ _ _ _ _ us hl => match us, hl with | [_, _, _], _ => rfl
  have F14 : Fun K f_law_joined.nm f_law_joined.nm f_law_joined.st _ _ := fun_mk (st := f_law_joined.st) l14 c14 k14
  have b14 := F14.binds (ps := f_law_joined.ps) fun _ _ _ _ _ _ us hl => match us, hl with | [_, _], _ => rfl
  have F15 : Fun K f_law_are_four.nm f_law_are_four.nm f_law_are_four.st _ _ := fun_mk (st := f_law_are_four.st) l15 c15 k15
  have b15 := F15.binds (ps := f_law_are_four.ps) fun _ _ _ _ _ _ us hl => match us, hl with | [_, _, _], _ => rfl
  have F16 : Fun K f_law_has_four.nm f_law_has_four.nm f_law_has_four.st _ _ := fun_mk (st := f_law_has_four.st) l16 c16 k16
  have b16 := F16.binds (ps := f_law_has_four.ps) fun _ _ _ _ _ _ us hl => match us, hl with | [_, _], _ => rfl
  have F17 : Fun K f_law_form.nm f_law_form.nm f_law_form.st _ _ := fun_mk (st := f_law_form.st) l17 c17 k17
  have b17 := F17.binds (ps := f_law_form.ps) fun _ _ _ _ _ _ us hl => match us, hl with | [_, _], _ => rfl
  have F18 : Fun K f_law_whole.nm f_law_whole.nm f_law_whole.st _ _ := fun_mk (st := f_law_whole.st) l18 c18 k18
  have b18 := F18.binds (ps := f_law_whole.ps) fun _ _ _ _ _ _ us hl => match us, hl with | [_, _], _ => rfl
  have F19 : Fun K f_law.nm f_law.nm f_law.st _ _ := fun_mk (st := f_law.st) l19 c19 k19
  have b19 := F19.binds (ps := f_law.ps) fun _ _ _ _ _ _ us hl => match us, hl with | [_], _ => rfl
  have T : Top fds sg K mg := by
    refine ⟨nd, fds_ok, sub_ok, fun f hf => ?_, fun x hx => ?_, fun _ => ?_, fun p hp => ?_⟩
    · unfold fds at hf
      rcases List.mem_cons.mp hf with rfl | hf
      · exact ⟨_, _, F0, PySem.W.mg_of X G a0, b0⟩
      rcases List.mem_cons.mp hf with rfl | hf
      · exact ⟨_, _, F1, PySem.W.mg_of X G a1, b1⟩
      rcases List.mem_cons.mp hf with rfl | hf
      · exact ⟨_, _, F2, PySem.W.mg_of X G a2, b2⟩
      rcases List.mem_cons.mp hf with rfl | hf
      · exact ⟨_, _, F3, PySem.W.mg_of X G a3, b3⟩
      rcases List.mem_cons.mp hf with rfl | hf
      · exact ⟨_, _, F4, PySem.W.mg_of X G a4, b4⟩
      rcases List.mem_cons.mp hf with rfl | hf
      · exact ⟨_, _, F5, PySem.W.mg_of X G a5, b5⟩
      rcases List.mem_cons.mp hf with rfl | hf
      · exact ⟨_, _, F6, PySem.W.mg_of X G a6, b6⟩
      rcases List.mem_cons.mp hf with rfl | hf
      · exact ⟨_, _, F7, PySem.W.mg_of X G a7, b7⟩
      rcases List.mem_cons.mp hf with rfl | hf
      · exact ⟨_, _, F8, PySem.W.mg_of X G a8, b8⟩
      rcases List.mem_cons.mp hf with rfl | hf
      · exact ⟨_, _, F9, PySem.W.mg_of X G a9, b9⟩
      rcases List.mem_cons.mp hf with rfl | hf
      · exact ⟨_, _, F10, PySem.W.mg_of X G a10, b10⟩
      rcases List.mem_cons.mp hf with rfl | hf
      · exact ⟨_, _, F11, PySem.W.mg_of X G a11, b11⟩
      rcases List.mem_cons.mp hf with rfl | hf
      · exact ⟨_, _, F12, PySem.W.mg_of X G a12, b12⟩
      rcases List.mem_cons.mp hf with rfl | hf
      · exact ⟨_, _, F13, PySem.W.mg_of X G a13, b13⟩
      rcases List.mem_cons.mp hf with rfl | hf
      · exact ⟨_, _, F14, PySem.W.mg_of X G a14, b14⟩
      rcases List.mem_cons.mp hf with rfl | hf
      · exact ⟨_, _, F15, PySem.W.mg_of X G a15, b15⟩
      rcases List.mem_cons.mp hf with rfl | hf
      · exact ⟨_, _, F16, PySem.W.mg_of X G a16, b16⟩
      rcases List.mem_cons.mp hf with rfl | hf
      · exact ⟨_, _, F17, PySem.W.mg_of X G a17, b17⟩
      rcases List.mem_cons.mp hf with rfl | hf
      · exact ⟨_, _, F18, PySem.W.mg_of X G a18, b18⟩
      rcases List.mem_cons.mp hf with rfl | hf
      · exact ⟨_, _, F19, PySem.W.mg_of X G a19, b19⟩
      exact absurd hf (by simp)
    · unfold bns at hx
      rcases List.mem_cons.mp hx with rfl | hx
      · exact PySem.W.mg_none_of X G z0
      rcases List.mem_cons.mp hx with rfl | hx
      · exact PySem.W.mg_none_of X G z1
      rcases List.mem_cons.mp hx with rfl | hx
      · exact PySem.W.mg_none_of X G z2
      rcases List.mem_cons.mp hx with rfl | hx
      · exact PySem.W.mg_none_of X G z3
      rcases List.mem_cons.mp hx with rfl | hx
      · exact PySem.W.mg_none_of X G z4
      rcases List.mem_cons.mp hx with rfl | hx
      · exact PySem.W.mg_none_of X G z5
      rcases List.mem_cons.mp hx with rfl | hx
      · exact PySem.W.mg_none_of X G z6
      rcases List.mem_cons.mp hx with rfl | hx
      · exact PySem.W.mg_none_of X G z7
      rcases List.mem_cons.mp hx with rfl | hx
      · exact PySem.W.mg_none_of X G z8
      rcases List.mem_cons.mp hx with rfl | hx
      · exact PySem.W.mg_none_of X G z9
      rcases List.mem_cons.mp hx with rfl | hx
      · exact PySem.W.mg_none_of X G z10
      rcases List.mem_cons.mp hx with rfl | hx
      · exact PySem.W.mg_none_of X G z11
      rcases List.mem_cons.mp hx with rfl | hx
      · exact PySem.W.mg_none_of X G z12
      rcases List.mem_cons.mp hx with rfl | hx
      · exact PySem.W.mg_none_of X G z13
      exact absurd hx (by simp)
    · exact PySem.W.mg_of X G g
    · have hp : p ∈ [(("MOST_LINES" : Str), (14 : Int)), (("MOST_NODES" : Str), (8 : Int))] := hp
      rcases List.mem_cons.mp hp with rfl | hp
      · exact ⟨_, PySem.W.mg_of X G y0⟩
      rcases List.mem_cons.mp hp with rfl | hp
      · exact ⟨_, PySem.W.mg_of X G y1⟩
      exact absurd hp (by simp)
  exact ⟨_, fun s v => .of_eq rfl, fun base _ _ => law_ok T 100 6 (fun ns hn => r_law g_5 ns hn) (f := f_law) (by simp [fds]) rfl rfl F19⟩
end K19
open PySem PySem.W PyProof.Rows
set_option maxHeartbeats 0 in
theorem PySem.Challenge.cw_gridkept_k19_main_plain_grids_and_four_s_holds : PySem.Challenge.rw_gridkept_k19_main_plain_grids_and_four_s.Holds := by
  w_on; o_law; k_head; (case hw => w_witness2)
  k_fill
  refine L2.walk_of (l := PySem.Challenge.rw_gridkept_k19_main_plain_grids_and_four_s) (n := 63) (k := 6) (x := "script") (CX := fun _ => L2.CX0) (sp := fun w => Pv.spLaw _) rfl (by decide) rfl ⟨rfl, by decide, by decide⟩ (fun w h Y => PySem.W.kIn_of Y) ?F (fun _ _ a ns hl _ hS => ⟨a, ns, rfl, hS, hl, fun _ => rfl⟩) (fun _ _ _ _ _ h => h)
  case F =>
    intro w mg fa h KX G hmg
    refine' K19.all_mk KX G hmg ?a0 ?l0 ?c0 ?k0 ?a1 ?l1 ?c1 ?k1 ?a2 ?l2 ?c2 ?k2 ?a3 ?l3 ?c3 ?k3 ?a4 ?l4 ?c4 ?k4 ?a5 ?l5 ?c5 ?k5 ?a6 ?l6 ?c6 ?k6 ?a7 ?l7 ?c7 ?k7 ?a8 ?l8 ?c8 ?k8 ?a9 ?l9 ?c9 ?k9 ?a10 ?l10 ?c10 ?k10 ?a11 ?l11 ?c11 ?k11 ?a12 ?l12 ?c12 ?k12 ?a13 ?l13 ?c13 ?k13 ?a14 ?l14 ?c14 ?k14 ?a15 ?l15 ?c15 ?k15 ?a16 ?l16 ?c16 ?k16 ?a17 ?l17 ?c17 ?k17 ?a18 ?l18 ?c18 ?k18 ?a19 ?l19 ?c19 ?k19 ?z0 ?z1 ?z2 ?z3 ?z4 ?z5 ?z6 ?z7 ?z8 ?z9 ?z10 ?z11 ?z12 ?z13 ?g ?y0 ?y1
    (case a0 => k_is); (case l0 => k_is); (case c0 => k_is); (case k0 => k_is); (case a1 => k_is); (case l1 => k_is); (case c1 => k_is); (case k1 => k_is); (case a2 => k_is); (case l2 => k_is); (case c2 => k_is); (case k2 => k_is); (case a3 => k_is); (case l3 => k_is); (case c3 => k_is); (case k3 => k_is); (case a4 => k_is); (case l4 => k_is); (case c4 => k_is); (case k4 => k_is); (case a5 => k_is); (case l5 => k_is); (case c5 => k_is); (case k5 => k_is); (case a6 => k_is); (case l6 => k_is); (case c6 => k_is); (case k6 => k_is); (case a7 => k_is); (case l7 => k_is); (case c7 => k_is); (case k7 => k_is); (case a8 => k_is); (case l8 => k_is); (case c8 => k_is); (case k8 => k_is); (case a9 => k_is); (case l9 => k_is); (case c9 => k_is); (case k9 => k_is); (case a10 => k_is); (case l10 => k_is); (case c10 => k_is); (case k10 => k_is); (case a11 => k_is); (case l11 => k_is); (case c11 => k_is); (case k11 => k_is); (case a12 => k_is); (case l12 => k_is); (case c12 => k_is); (case k12 => k_is); (case a13 => k_is); (case l13 => k_is); (case c13 => k_is); (case k13 => k_is); (case a14 => k_is); (case l14 => k_is); (case c14 => k_is); (case k14 => k_is); (case a15 => k_is); (case l15 => k_is); (case c15 => k_is); (case k15 => k_is); (case a16 => k_is); (case l16 => k_is); (case c16 => k_is); (case k16 => k_is); (case a17 => k_is); (case l17 => k_is); (case c17 => k_is); (case k17 => k_is); (case a18 => k_is); (case l18 => k_is); (case c18 => k_is); (case k18 => k_is); (case a19 => k_is); (case l19 => k_is); (case c19 => k_is); (case k19 => k_is); (case z0 => k_is); (case z1 => k_is); (case z2 => k_is); (case z3 => k_is); (case z4 => k_is); (case z5 => k_is); (case z6 => k_is); (case z7 => k_is); (case z8 => k_is); (case z9 => k_is); (case z10 => k_is); (case z11 => k_is); (case z12 => k_is); (case z13 => k_is); (case g => k_is); (case y0 => k_is); (case y1 => k_is)

