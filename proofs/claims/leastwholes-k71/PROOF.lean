import PyProof.Rows.All
import Wide.All
import OpenK.AllK
import Wide.FinOn
import KE.KStateDown
import KE.KRevSl
import Lean
import HandS.ForMost
import HandS.Defaults
import HandS.Exc
import HandS.Wide
import HandS.Walk
import HandS.Zip
import HandS.Flow
import HandS.Style
import HandS.Star
import HandS.Deep
import HandS.SortOrd
import HandS.Head0
import HandS.Head1
import HandS.Head2
import HandS.HeadEnd
import HandS.HeadHook1
import HandS.HeadHook2
import KE.SortData
import KE.KTupSum
import KE.DataMinMax
import KE.DataAny
import KE.DataEq
import HandS.TupAny
import HandS.TupMul
import HandS.Conv
import HandS.SortInts
import HandS.More
import HandS.RaiseMore
import KE.GoesMore
import HandS.ListItems
import HandS.DictComp
import PySem.Challenge.RW_leastwholes_k71_whole_squares_and_quadru
section
set_option Elab.async false
set_option linter.all false
set_option maxRecDepth 100000
set_option maxHeartbeats 4000000
/-! Mini, part 1: the small language and what it means on plain data. -/
namespace Mini
open PySem
abbrev Dt := PyData

/-- how a value stands: shared (may never be changed), owned (nobody else holds it), the draws' own record, or borrowed from a slot -/
inductive Fl where
  | sh | own | src | bo (i : Nat)
  deriving DecidableEq
inductive Bo where | add | sub | mul | fdiv | mod | pow | shl
  deriving DecidableEq
inductive Co where | lt | le | gt | ge | eq | ne | isN | notN | inn | nin
  deriving DecidableEq
inductive B1 where | len | abs | tuple | list | sum | sorted | int | str | repr | all | any | max | min | dict
  deriving DecidableEq
inductive B2 where | max | min
  deriving DecidableEq
inductive M1 where | index | count | get
  deriving DecidableEq
mutual
inductive Pat where
  | nm (i : Nat) | tp (ps : Pats)
inductive Pats where
  | nil | cons (p : Pat) (r : Pats)
end
mutual
inductive E where
  | v (i : Nat) | sh (i : Nat) | mv (i : Nat) | gl (x : Str) (d : Dt)
  | int (i : Int) | str (s : Str) | bl (b : Bool) | non
  | tup (es : Es) | lst (es : Es)
  | bin (o : Bo) (a b : E) | neg (a : E)
  | cmp (o : Co) (a b : E) | chain (o o' : Co) (a b c : E)
  | not (a : E) | and (a b : E) | or (a b : E) | ite (c a b : E)
  | idx (a b : E) | slL (a lo : E) | slU (a hi : E) | slLU (a lo hi : E) | rev (a : E)
  | b1 (f : B1) (a : E) | b2 (f : B2) (a b : E) | m1 (f : M1) (a b : E) | get2 (a b c : E)
  | call (f : Str) (as : Es) | io (i : Nat)
  | app (i : Nat) (e : E) | ext (i : Nat) (e : E) | pop (i : Nat)
  | comp (elt : E) (p : Pat) (it : It) (own : List Nat) | compIf (elt : E) (p : Pat) (it : It) (own : List Nat) (c : E)
  | dcomp (k v : E) (p : Pat) (it : It) (own : List Nat)
  | dict (ks : List (Int ⊕ Str)) (vs : Es) | litems (i : Nat)
  | lrg (a b : E)
  | fl (i : Nat) (k : Str) | mkS (c m : E)
inductive Es where
  | nil | cons (e : E) (r : Es) | star (e : E) (r : Es)
inductive It where
  | e (x : E) | scr (i : Nat) | rng1 (a : E) | rng2 (a b : E) | rng3 (a b c : E) | enum (a : E) | zip (a b : E) | zip3 (a b c : E) | items (i : Nat) | keys (i : Nat)
end
mutual
inductive S where
  | setf (i : Nat) (k : Str) (e : E) | asg (p : Pat) (e : E) | par (ps : Pats) (es : Es) | setx (i : Nat) (k e : E)
  | ret (e : E) | retN | exp (e : E) | ifs (c : E) (a b : Ss) | whl (c : E) (b : Ss) | for_ (p : Pat) (it : It) (b : Ss) | never | pass | brk | cnt
inductive Ss where
  | nil | cons (s : S) (r : Ss) | pull (i j : Nat) (r : Ss)
end

abbrev Sl := Fl × Dt
abbrev En := List (Option Sl)
/-- a call's meaning: the value, and what the arguments hold behind it, in order -/
abbrev CallS := Str → List Sl → Option (Sl × List Dt)

/-- the most items of a list made here -/
def lim : Nat := 1000000
def tru : Dt → Option Bool
  | .none => some false
  | .bool b => some b
  | .int i => some (decide (i ≠ 0))
  | .str s => if s.length ≤ lim then some (decide (s.length ≠ 0)) else none
  | .list xs | .tuple xs => some (!xs.isEmpty)
  | .dict _ => none
/-- whether a product is small enough -/
def mulOk (i j : Int) : Bool := decide (i.natAbs < 2 ^ 64) || decide (j.natAbs < 2 ^ 64) || decide (i.natAbs.log2 + j.natAbs.log2 < 1000000)
def divOk (j : Int) : Bool := decide (j ≠ 0) && decide (j.natAbs.log2 < 9000)
/-- data without dicts, not too deep -/
def flat (d : Dt) : Bool := SeqAt.shaped d
def isInt : Dt → Option Int
  | .int i => some i
  | _ => none
def isStr : Dt → Option Str
  | .str i => some i
  | _ => none
def isBool : Dt → Option Bool
  | .bool i => some i
  | _ => none
def allI : List Dt → Option (List Int) := fun ds => ds.mapM isInt
/-- the draws' record: cells, left, mixed, turn -/
def srcD (ns : List Int) (l m t : Int) : Dt := .tuple [.list (ns.map .int), .int l, .int m, .int t]
def getF (k : Str) : Dt → Option Int
  | .tuple [.list _, .int l, .int m, .int t] => if k = "left" then some l else if k = "mixed" then some m else if k = "turn" then some t else none
  | _ => none
def putF (k : Str) (v : Int) : Dt → Option Dt
  | .tuple [.list c, .int l, .int m, .int t] => if k = "left" then some (.tuple [.list c, .int v, .int m, .int t]) else if k = "mixed" then some (.tuple [.list c, .int l, .int v, .int t]) else if k = "turn" then some (.tuple [.list c, .int l, .int m, .int v]) else none
  | _ => none
/-- cells drawn (the last one first) while less than two is left -/
def pullI : List Int → Int → List Int × Int
  | [], l => ([], l)
  | n :: r, l => if l < 2 then pullI r n else (n :: r, l)
def pullD : Dt → Option Dt
  | .tuple [.list ds, .int l, .int m, .int t] => (allI ds).map fun ns => srcD (pullI ns.reverse l).1.reverse (pullI ns.reverse l).2 m t
  | _ => none
def allB : List Dt → Option (List Bool) := fun ds => ds.mapM isBool
def seqOf : Dt → Option (List Dt)
  | .list xs | .tuple xs => some xs
  | _ => none

def binD : Bo → Dt → Dt → Option Sl
  | .add, .int i, .int j => some (.sh, .int (i + j))
  | .add, .str a, .str b => if a.length + b.length ≤ lim then some (.sh, .str (a ++ b)) else none
  | .add, .list xs, .list ys => if xs.length + ys.length ≤ lim then some (.own, .list (xs ++ ys)) else none
  | .add, .tuple xs, .tuple ys => if xs.length + ys.length ≤ lim then some (.sh, .tuple (xs ++ ys)) else none
  | .sub, .int i, .int j => some (.sh, .int (i - j))
  | .mul, .int i, .int j => if mulOk i j then some (.sh, .int (i * j)) else none
  | .mul, .list xs, .int k => if xs.length * k.toNat ≤ lim ∧ k.natAbs < 2 ^ 60 then some (.own, .list (List.replicate k.toNat xs).flatten) else none
  | .fdiv, .int i, .int j => if divOk j then some (.sh, .int (i.fdiv j)) else none
  | .mod, .int i, .int j => if j ≠ 0 then some (.sh, .int (i.fmod j)) else none
  | .pow, .int i, .int j => if 0 ≤ j ∧ j ≤ 1000000 ∧ i.natAbs < 2 ^ 64 then some (.sh, .int (i ^ j.toNat)) else none
  | .shl, .int i, .int j => if 0 ≤ j ∧ j ≤ 1000000 ∧ i.natAbs < 2 ^ 64 then some (.sh, .int (i * 2 ^ j.toNat)) else none
  | _, _, _ => none
def isKey : Dt → Bool
  | .int _ | .str _ => true
  | _ => false
def eqK : Dt → Dt → Bool
  | .int i, .int j => decide (i = j)
  | .str x, .str y => decide (x = y)
  | _, _ => false
def kvGet (kvs : List (Dt × Dt)) (k : Dt) : Option Dt := (kvs.find? fun p => eqK p.1 k).map (·.2)
def inD (d : Dt) : Dt → Option Bool
  | .list xs => if flat d && flat (.list xs) then some (xs.any fun z => PyData.eqv z d) else none
  | .tuple xs => if d.plain && d.plain && flat d && flat (.tuple xs) && PyData.plainAll xs then some (xs.any fun z => PyData.eqv z d) else none
  | .dict kvs => if isKey d then some (kvGet kvs d).isSome else none
  | _ => none
def cmpD : Co → Dt → Dt → Option Bool
  | .lt, .int i, .int j => some (decide (i < j))
  | .le, .int i, .int j => some (decide (i ≤ j))
  | .gt, .int i, .int j => some (decide (j < i))
  | .ge, .int i, .int j => some (decide (j ≤ i))
  | .eq, .int i, .int j => some (decide (i = j))
  | .ne, .int i, .int j => some (!decide (i = j))
  | .eq, .str i, .str j => some (decide (i = j))
  | .ne, .str i, .str j => some (!decide (i = j))
  | .eq, a, b => if flat a && flat b then some (PyData.eqv a b) else none
  | .ne, a, b => if flat a && flat b then some (!PyData.eqv a b) else none
  | .isN, .none, .none => some true
  | .isN, .int _, .none | .isN, .tuple _, .none | .isN, .list _, .none | .isN, .str _, .none | .isN, .bool _, .none => some false
  | .notN, .none, .none => some false
  | .notN, .int _, .none | .notN, .tuple _, .none | .notN, .list _, .none | .notN, .str _, .none | .notN, .bool _, .none => some true
  | .inn, a, b => inD a b
  | .nin, a, b => (inD a b).map fun z => !z
  | _, _, _ => none
/-- the place that an index means -/
def ixD {α : Type} (xs : List α) (i : Int) : Option α := L2.atI xs i
def kvPut (es : List (Dt × Dt)) (k d : Dt) : List (Dt × Dt) := if es.any (fun p => eqK p.1 k) = true then es.map (fun p => if eqK p.1 k = true then (p.1, d) else p) else es ++ [(k, d)]
def idxD : Dt → Dt → Option Dt
  | .list xs, .int i => ixD xs i
  | .tuple xs, .int i => ixD xs i
  | .dict kvs, k => if isKey k then kvGet kvs k else none
  | _, _ => none
/-- a cut of a list -/
def cutD {α : Type} (xs : List α) (lo hi : Option Int) : List α := (xs.drop (HT.sIx xs.length 0 lo)).take (HT.sIx xs.length xs.length hi - HT.sIx xs.length 0 lo)
def sliceD (lo hi : Option Int) : Dt → Option Sl
  | .list xs => some (.own, .list (cutD xs lo hi))
  | .tuple xs => some (.sh, .tuple (cutD xs lo hi))
  | _ => none
def revD : Dt → Option Sl
  | .list xs => some (.own, .list xs.reverse)
  | .tuple xs => some (.sh, .tuple xs.reverse)
  | _ => none
mutual
def ltD : Dt → Dt → Bool
  | .int i, .int j => decide (i < j)
  | .str a, .str b => decide (a.cps.toList < b.cps.toList)
  | .list xs, .list ys => ltDs xs ys
  | .tuple xs, .tuple ys => ltDs xs ys
  | _, _ => false
def ltDs : List Dt → List Dt → Bool
  | [], [] => false
  | [], _ :: _ => true
  | _ :: _, [] => false
  | x :: xs, y :: ys => if PyData.eqv x y then ltDs xs ys else ltD x y
end
def insI (x : Int) : List Int → List Int
  | [] => [x]
  | y :: ys => if x ≤ y then x :: y :: ys else y :: insI x ys
/-- ints, ascending -/
def sortI : List Int → List Int
  | [] => []
  | x :: xs => insI x (sortI xs)
/-- the sorted list, equal ones in their turns -/
def insD (x : Dt) : List Dt → List Dt
  | [] => [x]
  | y :: ys => if ltD x y then x :: y :: ys else y :: insD x ys
def sortD : List Dt → List Dt
  | [] => []
  | x :: xs => insD x (sortD xs)
/-- before or like, of alike data -/
def leD (a b : Dt) : Bool := PySem.W.dataLe false (fun d : Dt => d) a b
def alikes (ds : List Dt) : Bool := ds.all fun d => ds.all fun e => PySem.W.alike d e
def isTup1 : Dt → Bool
  | .tuple (_ :: _) => true
  | _ => false
def noTup : Dt → Bool
  | .none | .tuple _ => false
  | _ => true
def noNone : Dt → Bool
  | .none => false
  | _ => true
/-- data that may be sorted -/
def sortOk (ds : List Dt) : Bool := alikes ds && (ds.all isTup1 || ds.all noTup) && ds.all flat
def minOk (ds : List Dt) : Bool := alikes ds && ds.all noNone && ds.all flat
def trOk1 : Dt → Bool
  | .str s => decide (s.length ≤ lim)
  | .list xs | .tuple xs => decide (xs.length ≤ lim)
  | _ => true
/-- data whose truth may be asked -/
def trOk (ds : List Dt) : Bool := PyData.plainAll ds && ds.all trOk1
/-- what repr is asked of here: no dicts, not too long -/
def shows (d : Dt) : Bool := flat d && d.showable && d.leavesShort 100 && decide (d.bulk ≤ 100000)
def b1D : B1 → Dt → Option Sl
  | .len, .list xs => some (.sh, .int xs.length)
  | .len, .tuple xs => some (.sh, .int xs.length)
  | .len, .str s => if s.length ≤ lim then some (.sh, .int s.length) else none
  | .abs, .int i => some (.sh, .int (if i < 0 then -i else i))
  | .tuple, .list xs => some (.sh, .tuple xs)
  | .tuple, .tuple xs => some (.sh, .tuple xs)
  | .list, .list xs => some (.own, .list xs)
  | .list, .tuple xs => some (.own, .list xs)
  | .sum, .list xs => (allI xs).map fun ns => (.sh, .int ns.sum)
  | .sum, .tuple xs => (allI xs).map fun ns => (.sh, .int ns.sum)
  | .max, .list xs => match allI xs with
    | some (n :: ns) => some (.sh, .int (ns.foldl max n))
    | _ => none
  | .min, .list xs => match allI xs with
    | some (n :: ns) => some (.sh, .int (ns.foldl min n))
    | _ => match xs with
      | d :: ds => if minOk (d :: ds) then some (.sh, PySem.W.minD d ds) else none
      | [] => none
  | .all, .list xs => if trOk xs && xs.all flat then some (.sh, .bool (xs.all PyData.truthy)) else none
  | .any, .list xs => if trOk xs && xs.all flat then some (.sh, .bool (xs.any PyData.truthy)) else none
  | .all, .tuple xs => if trOk xs && xs.all flat then some (.sh, .bool (xs.all PyData.truthy)) else none
  | .any, .tuple xs => if trOk xs && xs.all flat then some (.sh, .bool (xs.any PyData.truthy)) else none
  | .dict, .dict kvs => some (.own, .dict kvs)
  | .int, .int i => some (.sh, .int i)
  | .int, .bool b => some (.sh, .int (if b then 1 else 0))
  | .sorted, .list xs => match allI xs with
    | some ns => some (.own, .list ((sortI ns).map .int))
    | none => if sortOk xs then some (.own, .list (xs.mergeSort leD)) else none
  | .sorted, .dict kvs => (allI (kvs.map (·.1))).map fun ns => (.own, .list ((sortI ns).map .int))
  | .str, .int i => if i.natAbs.log2 < 1920 then some (.sh, .str (toString i)) else none
  | .repr, d => if shows d then some (.sh, .str d.shown) else none
  | _, _ => none
def b2D : B2 → Dt → Dt → Option Sl
  | .max, .int i, .int j => some (.sh, .int (if j > i then j else i))
  | .min, .int i, .int j => some (.sh, .int (if j < i then j else i))
  | _, _, _ => none
def m1D : M1 → Dt → Dt → Option Sl
  | .get, .dict kvs, k => if isKey k then some (.sh, (kvGet kvs k).getD .none) else none
  | _, _, _ => none
def get2D : Dt → Dt → Dt → Option Sl
  | .dict kvs, k, d => if isKey k then some (.sh, (kvGet kvs k).getD d) else none
  | _, _, _ => none

/-! ### slots -/
def rd (ρ : En) (i : Nat) : Option Sl := ρ[i]?.join
def wipe (ρ : En) : List Nat → En
  | [] => ρ
  | i :: is => (wipe ρ is).set i none
/-- the slots of is as they stand in ρ, all else as in ρ' -/
def back (ρ ρ' : En) : List Nat → En
  | [] => ρ'
  | i :: is => (back ρ ρ' is).set i (rd ρ i)
def okFl : Fl → Bool
  | .sh | .own | .src => true
  | .bo _ => false
mutual
def bind : Pat → Sl → En → Option En
  | .nm i, (fl, d), ρ => if okFl fl && decide (i < ρ.length) then some (ρ.set i (some (fl, d))) else none
  | .tp ps, (.sh, .tuple ds), ρ => binds ps ds ρ
  | .tp _, _, _ => none
def binds : Pats → List Dt → En → Option En
  | .nil, [], ρ => some ρ
  | .cons p ps, d :: ds, ρ => (bind p (.sh, d) ρ).bind (binds ps ds)
  | _, _, _ => none
end
def bindP : Pats → List Sl → En → Option En
  | .nil, [], ρ => some ρ
  | .cons p ps, d :: ds, ρ => (bind p d ρ).bind (bindP ps ds)
  | _, _, _ => none
mutual
/-- expressions that change nothing -/
def pureE : E → Bool
  | .v _ | .gl .. | .int _ | .str _ | .bl _ | .non => true
  | .sh _ | .mv _ | .app .. | .ext .. | .pop _ | .io _ | .comp .. | .compIf .. | .dcomp .. | .dict .. | .litems _ | .lrg .. | .fl .. | .mkS .. => false
  | .tup es | .lst es => pureEs es
  | .bin _ a b | .cmp _ a b | .idx a b | .and a b | .or a b | .b2 _ a b | .m1 _ a b | .slL a b | .slU a b => pureE a && pureE b
  | .neg a | .not a | .rev a | .b1 _ a => pureE a
  | .chain _ _ a b c | .ite a b c | .slLU a b c | .get2 a b c => pureE a && pureE b && pureE c
  | .call _ as => pureEs as
def pureEs : Es → Bool
  | .nil => true
  | .cons e r | .star e r => pureE e && pureEs r
end
def okBo : Fl → E → Bool
  | .bo _, b => pureE b
  | _, _ => true
/-- what may be kept as a shared value -/
def keep? : Fl → Bool
  | .sh | .own => true
  | _ => false
/-- what may be read -/
def read? : Fl → Bool
  | .src => false
  | _ => true
def putIo (ρ : En) : List (Dt ⊕ Nat) → List Dt → Option En
  | [], [] => some ρ
  | .inl _ :: D, _ :: os => putIo ρ D os
  | .inr i :: D, o :: os => match rd ρ i with
    | some (fl, _) => (putIo ρ D os).map fun ρ' => ρ'.set i (some (fl, o))
    | none => none
  | _, _ => none
/-- an argument as the callee takes it -/
def argSl (ρ : En) : Dt ⊕ Nat → Sl
  | .inl d => (.sh, d)
  | .inr i => (rd ρ i).getD (.sh, .none)

/-! ### loops -/
inductive Out where
  | nx (ρ : En) | rt (r : Sl) (ρ : En) | bk (ρ : En) | ct (ρ : En)
def compL (f : En → Dt → Option (Option Dt × En)) : List Dt → En → Option (List Dt × En)
  | [], ρ => some ([], ρ)
  | x :: xs, ρ => (f ρ x).bind fun r => (compL f xs r.2).map fun q => (r.1.toList ++ q.1, q.2)
def forL (f : En → Dt → Option Out) : List Dt → En → Option Out
  | [], ρ => some (.nx ρ)
  | x :: xs, ρ => match f ρ x with
    | some (.nx ρ') => forL f xs ρ'
    | some (.ct ρ') => forL f xs ρ'
    | some (.bk ρ') => some (.nx ρ')
    | some (.rt r ρ') => some (.rt r ρ')
    | none => none
def whL (c : En → Option (Bool × En)) (f : En → Option Out) : Nat → En → Option Out
  | 0, _ => none
  | n + 1, ρ => match c ρ with
    | some (false, ρ') => some (.nx ρ')
    | some (true, ρ') => match f ρ' with
      | some (.nx ρ'') => whL c f n ρ''
      | some (.ct ρ'') => whL c f n ρ''
      | some (.bk ρ'') => some (.nx ρ'')
      | some (.rt r ρ'') => some (.rt r ρ'')
      | none => none
    | none => none
/-- the ints from lo by step c, n of them -/
def upTo (lo c : Int) (n : Nat) : List Dt := (List.range n).map fun i => .int (lo + (i : Nat) * c)
def bnd62 (i : Int) : Bool := decide (-(2 ^ 62) ≤ i) && decide (i < 2 ^ 62)
def zipD (xs ys : List Dt) : List Dt := (xs.zip ys).map fun p => .tuple [p.1, p.2]
def zip2 : Dt → Dt → Option (List Dt)
  | .list xs, .list ys => some (zipD xs ys)
  | .tuple xs, .tuple ys => some (zipD xs ys)
  | _, _ => none
/-- the dict of pairs, the later ones over the earlier -/
def kvAdd (es : List (Dt × Dt)) : Dt → List (Dt × Dt)
  | .tuple [k, d] => kvPut es k d
  | _ => es
def kvOf (ps : List Dt) : List (Dt × Dt) := ps.foldl kvAdd []
def keyO : Int ⊕ Str → Dt
  | .inl i => .int i
  | .inr s => .str s
/-- the dict of written keys and values -/
def kvZip (ks : List (Int ⊕ Str)) (ds : List Dt) : List (Dt × Dt) := (ks.zip ds).foldl (fun es p => kvPut es (keyO p.1) p.2) []
def enumD (xs : List Dt) : List Dt := xs.zipIdx.map fun p => .tuple [.int (p.2 : Nat), p.1]

/-! ### what expressions mean -/
/-- a value's result: shared ones and owned ones end as shared -/
def keepS (r : Option (Sl × En)) : Option (Dt × En) := r.bind fun q => if keep? q.1.1 then some (q.1.2, q.2) else none
/-- a value's truth -/
def tst (r : Sl × En) : Option (Bool × En) := if read? r.1.1 then (tru r.1.2).map fun b => (b, r.2) else none
section
variable (cl : CallS)
mutual
def ev : E → En → Option (Sl × En)
  | .v i, ρ => match rd ρ i with
    | some (.sh, d) => some ((.sh, d), ρ)
    | some (.own, d) => some ((.bo i, d), ρ)
    | _ => none
  | .sh i, ρ => match rd ρ i with
    | some (.sh, d) => some ((.sh, d), ρ)
    | some (.own, d) => some ((.sh, d), ρ.set i (some (.sh, d)))
    | _ => none
  | .mv i, ρ => match rd ρ i with
    | some (.sh, d) => some ((.sh, d), ρ)
    | some (.own, d) => some ((.own, d), ρ.set i none)
    | some (.src, d) => some ((.src, d), ρ.set i none)
    | _ => none
  | .gl _ d, ρ => some ((.sh, d), ρ)
  | .int i, ρ => some ((.sh, .int i), ρ)
  | .str s, ρ => some ((.sh, .str s), ρ)
  | .bl b, ρ => some ((.sh, .bool b), ρ)
  | .non, ρ => some ((.sh, .none), ρ)
  | .tup es, ρ => (evL es ρ).bind fun r => if r.1.length ≤ lim then some ((.sh, .tuple r.1), r.2) else none
  | .lst es, ρ => (evL es ρ).bind fun r => if r.1.length ≤ lim then some ((.own, .list r.1), r.2) else none
  | .bin o a b, ρ => (ev a ρ).bind fun r => if read? r.1.1 && okBo r.1.1 b then (ev b r.2).bind fun q => if read? q.1.1 then (binD o r.1.2 q.1.2).map fun z => (z, q.2) else none else none
  | .neg a, ρ => (ev a ρ).bind fun r => match r.1.2 with
    | .int i => some ((.sh, .int (-i)), r.2)
    | _ => none
  | .cmp o a b, ρ => (ev a ρ).bind fun r => if read? r.1.1 && okBo r.1.1 b then (ev b r.2).bind fun q => if read? q.1.1 then (cmpD o r.1.2 q.1.2).map fun z => ((.sh, .bool z), q.2) else none else none
  | .chain o o' a b c, ρ => (ev a ρ).bind fun r => if keep? r.1.1 then (ev b r.2).bind fun q => if keep? q.1.1 then (cmpD o r.1.2 q.1.2).bind fun z =>
      if z then (ev c q.2).bind fun t => if read? t.1.1 then (cmpD o' q.1.2 t.1.2).map fun z' => ((.sh, .bool z'), t.2) else none else some ((.sh, .bool false), q.2) else none else none
  | .not a, ρ => (ev a ρ).bind fun r => if read? r.1.1 then (tru r.1.2).map fun b => ((.sh, .bool (!b)), r.2) else none
  | .and a b, ρ => (keepS (ev a ρ)).bind fun r => (tru r.1).bind fun t => if t then (keepS (ev b r.2)).map fun q => ((.sh, q.1), q.2) else some ((.sh, r.1), r.2)
  | .or a b, ρ => (keepS (ev a ρ)).bind fun r => (tru r.1).bind fun t => if t then some ((.sh, r.1), r.2) else (keepS (ev b r.2)).map fun q => ((.sh, q.1), q.2)
  | .ite c a b, ρ => ((ev c ρ).bind tst).bind fun r => if r.1 then (ev a r.2).bind fun q => if keep? q.1.1 then some q else none else (ev b r.2).bind fun q => if keep? q.1.1 then some q else none
  | .idx a b, ρ => (ev a ρ).bind fun r => if read? r.1.1 && okBo r.1.1 b then (ev b r.2).bind fun q => if read? q.1.1 then (idxD r.1.2 q.1.2).map fun z => ((.sh, z), q.2) else none else none
  | .slL a b, ρ => (ev a ρ).bind fun r => if read? r.1.1 && okBo r.1.1 b then (ev b r.2).bind fun q => match q.1.2 with
      | .int i => (sliceD (some i) none r.1.2).map fun z => (z, q.2)
      | _ => none else none
  | .slU a b, ρ => (ev a ρ).bind fun r => if read? r.1.1 && okBo r.1.1 b then (ev b r.2).bind fun q => match q.1.2 with
      | .int i => (sliceD none (some i) r.1.2).map fun z => (z, q.2)
      | _ => none else none
  | .slLU a b c, ρ => (ev a ρ).bind fun r => if read? r.1.1 && okBo r.1.1 b && okBo r.1.1 c then (ev b r.2).bind fun q => match q.1.2 with
      | .int i => (ev c q.2).bind fun t => match t.1.2 with
        | .int j => (sliceD (some i) (some j) r.1.2).map fun z => (z, t.2)
        | _ => none
      | _ => none else none
  | .rev a, ρ => (ev a ρ).bind fun r => if read? r.1.1 then (revD r.1.2).map fun z => (z, r.2) else none
  | .b1 f a, ρ => (ev a ρ).bind fun r => if read? r.1.1 then (b1D f r.1.2).map fun z => (z, r.2) else none
  | .b2 f a b, ρ => (keepS (ev a ρ)).bind fun r => (keepS (ev b r.2)).bind fun q => (b2D f r.1 q.1).map fun z => (z, q.2)
  | .m1 f a b, ρ => (ev a ρ).bind fun r => if read? r.1.1 && okBo r.1.1 b then (keepS (ev b r.2)).bind fun q => (m1D f r.1.2 q.1).map fun z => (z, q.2) else none
  | .get2 a b c, ρ => (ev a ρ).bind fun r => if read? r.1.1 && okBo r.1.1 b && okBo r.1.1 c then (keepS (ev b r.2)).bind fun q => (keepS (ev c q.2)).bind fun t => (get2D r.1.2 q.1 t.1).map fun z => (z, t.2) else none
  | .call f as, ρ => (evA as ρ).bind fun r => if r.1.2.all (fun i => decide ((rd r.2 i).map (·.1) = some .own ∨ (rd r.2 i).map (·.1) = some .src)) && decide r.1.2.Nodup then
      (cl f (r.1.1.map (argSl r.2))).bind fun q => if okFl q.1.1 then (putIo r.2 r.1.1 q.2).map fun ρ' => (q.1, ρ') else none
    else none
  | .io _, _ => none
  | .app i e, ρ => match rd ρ i with
    | some (.own, .list _) => (keepS (ev e ρ)).bind fun r => match rd r.2 i with
      | some (.own, .list xs) => if xs.length < lim then some ((.sh, .none), r.2.set i (some (.own, .list (xs ++ [r.1])))) else none
      | _ => none
    | _ => none
  | .ext i e, ρ => match rd ρ i with
    | some (.own, .list _) => (ev e ρ).bind fun r => match r.1, rd r.2 i with
      | (.own, .list ys), some (.own, .list xs) => if xs.length + ys.length ≤ lim then some ((.sh, .none), r.2.set i (some (.own, .list (xs ++ ys)))) else none
      | _, _ => none
    | _ => none
  | .pop i, ρ => match rd ρ i with
    | some (.own, .list xs) => match xs.getLast? with
      | some x => some ((.sh, x), ρ.set i (some (.own, .list xs.dropLast)))
      | none => none
    | _ => none
  | .comp elt p it own, ρ => (evI it ρ).bind fun r => if decide (r.1.length ≤ lim) && own.all (fun i => decide ((rd r.2 i).map (·.1) ≠ some .own ∧ (rd r.2 i).map (·.1) ≠ some .src)) then
      (compL (fun ρ' x => (bind p (.sh, x) ρ').bind fun ρ'' => (keepS (ev elt ρ'')).map fun q => (some q.1, wipe q.2 own)) r.1 (wipe r.2 own)).map fun q => ((.own, .list q.1), back r.2 q.2 own) else none
  | .compIf elt p it own c, ρ => (evI it ρ).bind fun r => if decide (r.1.length ≤ lim) && own.all (fun i => decide ((rd r.2 i).map (·.1) ≠ some .own ∧ (rd r.2 i).map (·.1) ≠ some .src)) then
      (compL (fun ρ' x => (bind p (.sh, x) ρ').bind fun ρ'' => ((ev c ρ'').bind tst).bind fun t => if t.1 then (keepS (ev elt t.2)).map fun q => (some q.1, wipe q.2 own) else some (none, wipe t.2 own)) r.1 (wipe r.2 own)).map fun q =>
        ((.own, .list q.1), back r.2 q.2 own) else none
  | .dcomp k v p it own, ρ => (evI it ρ).bind fun r => if decide (r.1.length ≤ lim) && own.all (fun i => decide ((rd r.2 i).map (·.1) ≠ some .own ∧ (rd r.2 i).map (·.1) ≠ some .src)) then
      (compL (fun ρ' x => (bind p (.sh, x) ρ').bind fun ρ'' => (keepS (ev k ρ'')).bind fun q => if isKey q.1 then (keepS (ev v q.2)).map fun t => (some (.tuple [q.1, t.1]), wipe t.2 own) else none) r.1 (wipe r.2 own)).map fun q =>
        ((.own, .dict (kvOf q.1)), back r.2 q.2 own) else none
  | .dict ks vs, ρ => (evL vs ρ).bind fun r => if decide (r.1.length = ks.length) && decide (ks.length ≤ 15) then some ((.own, .dict (kvZip ks r.1)), r.2) else none
  | .litems i, ρ => match rd ρ i with
    | some (.own, .dict es) => if es.length ≤ lim then some ((.own, .list (es.map fun p => .tuple [p.1, p.2])), ρ) else none
    | _ => none
  | .fl i k, ρ => match rd ρ i with
    | some (.src, d) => (getF k d).map fun v => ((.sh, .int v), ρ)
    | _ => none
  | .mkS c m, ρ => (ev c ρ).bind fun r => match r.1 with
    | (.own, .list ds) => (allI ds).bind fun ns => (keepS (ev m r.2)).bind fun q => match q.1 with
      | .int k => some ((.src, srcD ns 1 k 0), q.2)
      | _ => none
    | _ => none
  | .lrg a b, ρ => (keepS (ev a ρ)).bind fun r => (keepS (ev b r.2)).bind fun q => match r.1, q.1 with
    | .int i, .int j => if bnd62 i && bnd62 j && decide ((j - i).toNat ≤ lim) then some ((.own, .list (upTo i 1 (j - i).toNat)), q.2) else none
    | _, _ => none
def evL : Es → En → Option (List Dt × En)
  | .nil, ρ => some ([], ρ)
  | .cons e r, ρ => (keepS (ev e ρ)).bind fun x => (evL r x.2).map fun q => (x.1 :: q.1, q.2)
  | .star e r, ρ => (ev e ρ).bind fun x => if read? x.1.1 then (seqOf x.1.2).bind fun ds => (evL r x.2).map fun q => (ds ++ q.1, q.2) else none
def evP : Es → En → Option (List Sl × En)
  | .nil, ρ => some ([], ρ)
  | .cons e r, ρ => (ev e ρ).bind fun x => if okFl x.1.1 then (evP r x.2).map fun q => (x.1 :: q.1, q.2) else none
  | .star .., _ => none
def evA : Es → En → Option ((List (Dt ⊕ Nat) × List Nat) × En)
  | .nil, ρ => some (([], []), ρ)
  | .cons (.io i) r, ρ => if (rd ρ i).isSome then (evA r ρ).map fun q => ((.inr i :: q.1.1, i :: q.1.2), q.2) else none
  | .cons e r, ρ => (keepS (ev e ρ)).bind fun x => (evA r x.2).map fun q => ((.inl x.1 :: q.1.1, q.1.2), q.2)
  | .star .., _ => none
def evI : It → En → Option (List Dt × En)
  | .e x, ρ => (keepS (ev x ρ)).bind fun r => (seqOf r.1).map fun ds => (ds, r.2)
  | .scr i, ρ => match rd ρ i with
    | some (.src, .list ds) => some (ds, ρ)
    | _ => none
  | .rng1 a, ρ => (keepS (ev a ρ)).bind fun r => match r.1 with
    | .int i => if bnd62 i then some (upTo 0 1 i.toNat, r.2) else none
    | _ => none
  | .rng2 a b, ρ => (keepS (ev a ρ)).bind fun r => (keepS (ev b r.2)).bind fun q => match r.1, q.1 with
    | .int i, .int j => if bnd62 i && bnd62 j then some (upTo i 1 (j - i).toNat, q.2) else none
    | _, _ => none
  | .rng3 a b c, ρ => (keepS (ev a ρ)).bind fun r => (keepS (ev b r.2)).bind fun q => (keepS (ev c q.2)).bind fun t => match r.1, q.1, t.1 with
    | .int i, .int j, .int k => if decide (k ≠ 0) && decide (k.natAbs < 2 ^ 20) && Builtin.Range.small i j k && decide (0 ≤ Builtin.Range.rangeSize i j k) then some (upTo i k (Builtin.Range.rangeSize i j k).toNat, t.2) else none
    | _, _, _ => none
  | .enum a, ρ => (keepS (ev a ρ)).bind fun r => (seqOf r.1).map fun ds => (enumD ds, r.2)
  | .zip a b, ρ => (keepS (ev a ρ)).bind fun r => (keepS (ev b r.2)).bind fun q => (zip2 r.1 q.1).map fun ds => (ds, q.2)
  | .zip3 .., _ => none
  | .items i, ρ => match rd ρ i with
    | some (.sh, .dict es) => some (es.map fun p => .tuple [p.1, p.2], ρ)
    | some (.own, .dict es) => some (es.map fun p => .tuple [p.1, p.2], ρ.set i (some (.sh, .dict es)))
    | _ => none
  | .keys i, ρ => match rd ρ i with
    | some (.sh, .dict es) => some (es.map fun p => p.1, ρ)
    | some (.own, .dict es) => some (es.map fun p => p.1, ρ.set i (some (.sh, .dict es)))
    | _ => none
end
def tv (e : E) (ρ : En) : Option (Bool × En) := (ev cl e ρ).bind tst
mutual
def ex (fuel : Nat) : S → En → Option Out
  | .asg p e, ρ => (ev cl e ρ).bind fun r => (bind p r.1 r.2).map .nx
  | .par ps es, ρ => (evP cl es ρ).bind fun r => (bindP ps r.1 r.2).map .nx
  | .setx i k e, ρ => (keepS (ev cl e ρ)).bind fun r => if (rd r.2 i).isSome then (keepS (ev cl k r.2)).bind fun q => match rd q.2 i with
    | some (.own, .list xs) => match q.1 with
      | .int j => (L2.ixN xs.length j).map fun n => .nx (q.2.set i (some (.own, .list (xs.set n r.1))))
      | _ => none
    | some (.own, .dict kvs) => if isKey q.1 && decide (kvs.length < lim) then some (.nx (q.2.set i (some (.own, .dict (kvPut kvs q.1 r.1))))) else none
    | _ => none else none
  | .setf i k e, ρ => (keepS (ev cl e ρ)).bind fun r => match r.1, rd r.2 i with
    | .int v, some (.src, d) => (putF k v d).map fun d' => .nx (r.2.set i (some (.src, d')))
    | _, _ => none
  | .ret e, ρ => (ev cl e ρ).bind fun r => if okFl r.1.1 then some (.rt r.1 r.2) else none
  | .retN, ρ => some (.rt (.sh, .none) ρ)
  | .exp e, ρ => (ev cl e ρ).map fun r => .nx r.2
  | .ifs c a b, ρ => (tv cl c ρ).bind fun r => if r.1 then exs fuel a r.2 else exs fuel b r.2
  | .whl c b, ρ => whL (tv cl c) (exs fuel b) fuel ρ
  | .for_ p it b, ρ => (evI cl it ρ).bind fun r => forL (fun ρ' x => (bind p (.sh, x) ρ').bind (exs fuel b)) r.1 r.2
  | .never, _ => none
  | .pass, ρ => some (.nx ρ)
  | .brk, ρ => some (.bk ρ)
  | .cnt, ρ => some (.ct ρ)
def exs (fuel : Nat) : Ss → En → Option Out
  | .nil, ρ => some (.nx ρ)
  | .cons s r, ρ => match ex fuel s ρ with
    | some (.nx ρ') => exs fuel r ρ'
    | o => o
  | .pull i j r, ρ => match rd ρ i, rd ρ j with
    | some (.src, d), none => if decide (i ≠ j) && decide (j < ρ.length) then (pullD d).bind fun d' => exs fuel r (ρ.set i (some (.src, d'))) else none
    | _, _ => none
end
end
end Mini

end
section
set_option Elab.async false
set_option linter.all false
set_option maxRecDepth 100000
set_option maxHeartbeats 4000000
/-! Mini, part 2: how data stands in the abstract heap. -/
namespace Mini
open PySem PySem.Spec PyProof.Rows L2

/-- a list, a tuple of the module's own -/
def LsK (K : PySem.W.Frag) (a : Addr) (xs : List V) : Prop :=
  ∃ (o : Obj) (its : Array Value) (n : Nat), K.lookup a = some o ∧ o.cls = .type "list" ∧ o.dict = none ∧ o.data = .seq its n ∧ its.size ≤ sizeLine ∧ Vals xs its.toList
def TpK (K : PySem.W.Frag) (a : Addr) (xs : List V) : Prop :=
  ∃ (o : Obj) (its : Array Value) (n : Nat), K.lookup a = some o ∧ o.cls = .type "tuple" ∧ o.data = .seq its n ∧ its.size ≤ sizeLine ∧ Vals xs its.toList
def keyD : Key → Dt
  | .inl i => .int i
  | .inr x => .str x
section
variable (K : PySem.W.Frag) (W : Addr → Prop) (H : Hp)
mutual
/-- the value v stands for the data, and nothing of it lies at W -/
def Rep : Dt → V → Prop
  | .none, v => v = .non
  | .bool b, v => v = .bl b
  | .int i, v => v = .int i
  | .str x, v => v = .str x
  | .list ds, v => ∃ a xs, v = .ref a ∧ (H a = some (.lst xs) ∧ ¬ W a) ∧ Reps ds xs
  | .tuple ds, v => ∃ a xs, v = .ref a ∧ ((H a = some (.tup xs) ∧ ¬ W a) ∨ TpK K a xs) ∧ Reps ds xs
  | .dict es, v => ∃ a kvs, v = .ref a ∧ (Rd H a (.dK kvs) ∧ ¬ W a) ∧ RepKv es kvs
def Reps : List Dt → List V → Prop
  | [], xs => xs = []
  | d :: ds, xs => ∃ x r, xs = x :: r ∧ Rep d x ∧ Reps ds r
def RepKv : List (Dt × Dt) → List (Key × V) → Prop
  | [], r => r = []
  | (kd, d) :: es, r => ∃ k v q, r = (k, v) :: q ∧ kd = keyD k ∧ Rep d v ∧ RepKv es q
end
end
section
variable {K : PySem.W.Frag} {W W' : Addr → Prop} {H H' : Hp}
mutual
theorem Rep.step (h : ∀ b o, H b = some o → ¬ W b → H' b = some o) (h2 : ∀ a, W' a → W a ∨ H a = none) : ∀ (d : Dt) (v : V), Rep K W H d v → Rep K W' H' d v
  | .none, _, r => r
  | .bool _, _, r => r
  | .int _, _, r => r
  | .str _, _, r => r
  | .list ds, v, ⟨a, xs, e, ⟨r, hw⟩, q⟩ => ⟨a, xs, e, ⟨h _ _ r hw, fun z => by
      rcases h2 a z with z | z
      · exact hw z
      · rw [z] at r; cases r⟩, Reps.step h h2 ds xs q⟩
  | .tuple ds, v, ⟨a, xs, e, r, q⟩ => ⟨a, xs, e, by
      rcases r with ⟨r, hw⟩ | r
      · refine .inl ⟨h _ _ r hw, fun z => ?_⟩
        rcases h2 a z with z | z
        · exact hw z
        · rw [z] at r; cases r
      · exact .inr r, Reps.step h h2 ds xs q⟩
  | .dict es, v, ⟨a, kvs, e, ⟨r, hw⟩, q⟩ => ⟨a, kvs, e, ⟨r.imp (fun r => h _ _ r hw) (fun ⟨o, r⟩ => ⟨o, h _ _ r hw⟩), fun z => by
      rcases h2 a z with z | z
      · exact hw z
      · rcases r with r | ⟨o, r⟩ <;> (rw [z] at r; cases r)⟩, RepKv.step h h2 es kvs q⟩
theorem Reps.step (h : ∀ b o, H b = some o → ¬ W b → H' b = some o) (h2 : ∀ a, W' a → W a ∨ H a = none) : ∀ (ds : List Dt) (xs : List V), Reps K W H ds xs → Reps K W' H' ds xs
  | [], _, r => r
  | d :: ds, xs, ⟨x, r, e, q1, q2⟩ => ⟨x, r, e, Rep.step h h2 d x q1, Reps.step h h2 ds r q2⟩
theorem RepKv.step (h : ∀ b o, H b = some o → ¬ W b → H' b = some o) (h2 : ∀ a, W' a → W a ∨ H a = none) : ∀ (es : List (Dt × Dt)) (r : List (Key × V)), RepKv K W H es r → RepKv K W' H' es r
  | [], _, r => r
  | (kd, d) :: es, r, ⟨k, v, q, e, e1, q1, q2⟩ => ⟨k, v, q, e, e1, Rep.step h h2 d v q1, RepKv.step h h2 es q q2⟩
end
theorem Reps.nil : Reps K W H [] [] := rfl
theorem Reps.cons {d : Dt} {ds : List Dt} {x : V} {xs : List V} (a : Rep K W H d x) (b : Reps K W H ds xs) : Reps K W H (d :: ds) (x :: xs) := ⟨x, xs, rfl, a, b⟩
theorem Reps.length : ∀ {ds : List Dt} {xs : List V}, Reps K W H ds xs → ds.length = xs.length
  | [], _, r => by rw [show _ = _ from r]; rfl
  | d :: ds, xs, ⟨x, r, e, _, q⟩ => by subst e; simp [Reps.length q]
theorem Reps.append : ∀ {ds es : List Dt} {xs ys : List V}, Reps K W H ds xs → Reps K W H es ys → Reps K W H (ds ++ es) (xs ++ ys)
  | [], _, _, _, r, q => by rw [show _ = _ from r]; exact q
  | d :: ds, _, _, _, ⟨x, r, e, q1, q2⟩, q => by subst e; exact .cons q1 (Reps.append q2 q)
theorem Reps.get : ∀ {ds : List Dt} {xs : List V} {i : Nat} {d : Dt}, Reps K W H ds xs → ds[i]? = some d → ∃ x, xs[i]? = some x ∧ Rep K W H d x
  | [], _, _, _, _, h => by simp at h
  | d :: ds, _, 0, _, ⟨x, r, e, q1, q2⟩, h => by subst e; simp at h; subst h; exact ⟨x, rfl, q1⟩
  | d :: ds, _, i + 1, _, ⟨x, r, e, q1, q2⟩, h => by
    subst e
    obtain ⟨y, h1, h2⟩ := Reps.get (i := i) q2 (by simpa using h)
    exact ⟨y, by simpa using h1, h2⟩
theorem Reps.at_ : ∀ {ds : List Dt} {xs : List V} {i : Nat} {x : V}, Reps K W H ds xs → xs[i]? = some x → ∃ d, ds[i]? = some d ∧ Rep K W H d x
  | [], _, _, _, r, h => by rw [show _ = _ from r] at h; simp at h
  | d :: ds, _, 0, _, ⟨x, r, e, q1, q2⟩, h => by subst e; simp at h; subst h; exact ⟨d, rfl, q1⟩
  | d :: ds, _, i + 1, _, ⟨x, r, e, q1, q2⟩, h => by
    subst e
    obtain ⟨y, h1, h2⟩ := Reps.at_ (i := i) q2 (by simpa using h)
    exact ⟨y, by simpa using h1, h2⟩
theorem Reps.take : ∀ {ds : List Dt} {xs : List V} (n : Nat), Reps K W H ds xs → Reps K W H (ds.take n) (xs.take n)
  | _, _, 0, _ => rfl
  | [], _, n + 1, r => by rw [show _ = _ from r]; rfl
  | d :: ds, _, n + 1, ⟨x, r, e, q1, q2⟩ => by subst e; exact .cons q1 (Reps.take n q2)
theorem Reps.drop : ∀ {ds : List Dt} {xs : List V} (n : Nat), Reps K W H ds xs → Reps K W H (ds.drop n) (xs.drop n)
  | _, _, 0, r => r
  | [], _, n + 1, r => by rw [show _ = _ from r]; rfl
  | d :: ds, _, n + 1, ⟨x, r, e, q1, q2⟩ => by subst e; exact Reps.drop n q2
theorem Reps.set {d : Dt} {x : V} (q : Rep K W H d x) : ∀ {ds : List Dt} {xs : List V} (n : Nat), Reps K W H ds xs → Reps K W H (ds.set n d) (xs.set n x)
  | [], _, _, r => by rw [show _ = _ from r]; rfl
  | d :: ds, _, 0, ⟨y, r, e, q1, q2⟩ => by subst e; exact .cons q q2
  | d :: ds, _, n + 1, ⟨y, r, e, q1, q2⟩ => by subst e; exact .cons q1 (Reps.set q n q2)
theorem Reps.reverse : ∀ {ds : List Dt} {xs : List V}, Reps K W H ds xs → Reps K W H ds.reverse xs.reverse
  | [], _, r => by rw [show _ = _ from r]; rfl
  | d :: ds, _, ⟨x, r, e, q1, q2⟩ => by
    subst e
    rw [List.reverse_cons, List.reverse_cons]
    exact (Reps.reverse q2).append (.cons q1 .nil)
theorem Reps.dropLast : ∀ {ds : List Dt} {xs : List V}, Reps K W H ds xs → Reps K W H ds.dropLast xs.dropLast := fun {ds xs} r => by
  rw [List.dropLast_eq_take, List.dropLast_eq_take, r.length]
  exact r.take _
theorem Reps.rep {ds : List Dt} {xs : List V} (r : Reps K W H ds xs) : ∀ k : Nat, Reps K W H (List.replicate k ds).flatten (List.replicate k xs).flatten
  | 0 => rfl
  | k + 1 => by
    rw [List.replicate_succ, List.replicate_succ, List.flatten_cons, List.flatten_cons]
    exact r.append (Reps.rep r k)
theorem Reps.all {P : V → Prop} (h : ∀ d x, Rep K W H d x → P x) : ∀ {ds : List Dt} {xs : List V}, Reps K W H ds xs → ∀ x ∈ xs, P x
  | [], _, r, x, hx => by rw [show _ = _ from r] at hx; simp at hx
  | d :: ds, _, ⟨y, r, e, q1, q2⟩, x, hx => by
    subst e
    rcases List.mem_cons.mp hx with rfl | hx
    · exact h d _ q1
    · exact Reps.all h q2 x hx
/-- ints -/
theorem Reps.ints : ∀ {ds : List Dt} {ns : List Int} {xs : List V}, Reps K W H ds xs → allI ds = some ns → xs = ns.map V.int
  | [], ns, _, r, h => by
    have e : some [] = some ns := h
    cases e
    exact r
  | d :: ds, ns, _, ⟨x, r, e, q1, q2⟩, h => by
    subst e
    cases d with
    | int i =>
      have h' : ((some i).bind fun a => (allI ds).bind fun b => some (a :: b)) = some ns := by
        rw [← h]
        unfold allI
        rw [List.mapM_cons]
        rfl
      simp only [Option.bind_some] at h'
      cases e2 : allI ds with
      | none => rw [e2] at h'; cases h'
      | some ms =>
        rw [e2] at h'
        cases h'
        have : x = .int i := q1
        rw [this, Reps.ints q2 e2]
        rfl
    | _ => simp [allI, isInt] at h
theorem Reps.bools : ∀ {ds : List Dt} {ns : List Bool} {xs : List V}, Reps K W H ds xs → allB ds = some ns → xs = ns.map V.bl
  | [], ns, _, r, h => by
    have e : some [] = some ns := h
    cases e
    exact r
  | d :: ds, ns, _, ⟨x, r, e, q1, q2⟩, h => by
    subst e
    cases d with
    | bool i =>
      have h' : ((some i).bind fun a => (allB ds).bind fun b => some (a :: b)) = some ns := by
        rw [← h]
        unfold allB
        rw [List.mapM_cons]
        rfl
      simp only [Option.bind_some] at h'
      cases e2 : allB ds with
      | none => rw [e2] at h'; cases h'
      | some ms =>
        rw [e2] at h'
        cases h'
        have : x = .bl i := q1
        rw [this, Reps.bools q2 e2]
        rfl
    | _ => simp [allB, isBool] at h
/-- reading: SqL, SqT -/
theorem Rep.tup {ds : List Dt} {v : V} (r : Rep K W H (.tuple ds) v) : ∃ a xs, v = .ref a ∧ SqT K H a xs ∧ Reps K W H ds xs := by
  obtain ⟨a, xs, e, r, q⟩ := r
  refine ⟨a, xs, e, ?_, q⟩
  rcases r with ⟨r, _⟩ | r
  · exact .inl (.inl r)
  · exact .inr r
theorem Rep.mkTup {ds : List Dt} {xs : List V} {p : Addr} (h : H p = some (.tup xs)) (hw : ¬ W p) (r : Reps K W H ds xs) : Rep K W H (.tuple ds) (.ref p) := ⟨p, xs, rfl, .inl ⟨h, hw⟩, r⟩
theorem Rep.mkLst {ds : List Dt} {xs : List V} {p : Addr} (h : H p = some (.lst xs)) (hw : ¬ W p) (r : Reps K W H ds xs) : Rep K W H (.list ds) (.ref p) := ⟨p, xs, rfl, ⟨h, hw⟩, r⟩

mutual
def noDict : Dt → Bool
  | .dict _ => false
  | .list xs | .tuple xs => noDicts xs
  | _ => true
def noDicts : List Dt → Bool
  | [] => true
  | x :: xs => noDict x && noDicts xs
end
end
end Mini

end
section
set_option Elab.async false
set_option linter.all false
set_option maxRecDepth 100000
set_option maxHeartbeats 4000000
/-! Mini, part 3: how a frame's slots stand, what is changed. -/
namespace Mini
open PySem PySem.Spec PyProof.Rows L2
def srcKvs (c : Addr) (l m t : Int) : List (Key × V) := [(.inr "cells", .ref c), (.inr "left", .int l), (.inr "mixed", .int m), (.inr "turn", .int t)]
section
variable (K : PySem.W.Frag) (W : Addr → Prop) (H : Hp)
inductive SlotRep : Fl → V → Dt → List Addr → Prop
  | sh {v : V} {d : Dt} : Rep K W H d v → SlotRep .sh v d []
  | lst {a : Addr} {xs : List V} {ds : List Dt} : H a = some (.lst xs) → Reps K W H ds xs → SlotRep .own (.ref a) (.list ds) [a]
  | dct {a : Addr} {kvs : List (Key × V)} {es : List (Dt × Dt)} : H a = some (.dK kvs) → RepKv K W H es kvs → SlotRep .own (.ref a) (.dict es) [a]
  | src {a c : Addr} {ns : List Int} {l m t : Int} : H a = some (.dK (srcKvs c l m t)) → H c = some (.lst (ns.map .int)) → a ≠ c → SlotRep .src (.ref a) (srcD ns l m t) [a, c]
  | scr {a : Addr} {ns : List Int} : (∃ o, H a = some (.frz o (.lst (ns.map .int)))) ∨ LsK K a (ns.map .int) → SlotRep .src (.ref a) (.list (ns.map .int)) []
end
/-- a list, a dict stands there -/
def mu (H : Hp) (a : Addr) : Prop := (∃ xs, H a = some (.lst xs)) ∨ ∃ kvs, H a = some (.dK kvs)
theorem mu.ne {H : Hp} {a : Addr} (h : mu H a) : H a ≠ none := by
  rcases h with ⟨_, h⟩ | ⟨_, h⟩ <;> (rw [h]; exact Option.some_ne_none _)
abbrev Fs := Nat → List Addr
def Wt (S : Addr → Prop) (F : Fs) (a : Addr) : Prop := S a ∨ ∃ i, a ∈ F i
def addS (S : Addr → Prop) (A : List Addr) (a : Addr) : Prop := S a ∨ a ∈ A
def setF (F : Fs) (i : Nat) (A : List Addr) : Fs := fun j => if j = i then A else F j
theorem setF_same {F : Fs} {i : Nat} {A : List Addr} : setF F i A i = A := if_pos rfl
theorem setF_ne {F : Fs} {i j : Nat} {A : List Addr} (h : j ≠ i) : setF F i A j = F j := if_neg h
section
variable {K : PySem.W.Frag} {W W' : Addr → Prop} {H H' : Hp}
theorem SlotRep.mus {fl : Fl} {v : V} {d : Dt} {A : List Addr} (r : SlotRep K W H fl v d A) : ∀ a ∈ A, mu H a := by
  cases r with
  | sh _ => intro a h; cases h
  | lst h _ => intro a e; cases List.mem_singleton.mp e; exact .inl ⟨_, h⟩
  | dct h _ => intro a e; cases List.mem_singleton.mp e; exact .inr ⟨_, h⟩
  | src h h2 _ =>
    intro a e
    simp only [List.mem_cons, List.not_mem_nil, or_false] at e
    rcases e with rfl | rfl
    · exact .inr ⟨_, h⟩
    · exact .inl ⟨_, h2⟩
  | scr _ => intro a h; cases h
theorem SlotRep.step (h : ∀ b o, H b = some o → ¬ W b → H' b = some o) (h2 : ∀ a, W' a → W a ∨ H a = none) {fl : Fl} {v : V} {d : Dt} {A : List Addr} (r : SlotRep K W H fl v d A)
    (hA : ∀ a ∈ A, H' a = H a) (hw : ∀ a, W a → mu H a) : SlotRep K W' H' fl v d A := by
  cases r with
  | sh r => exact .sh (r.step h h2)
  | lst e r => exact .lst ((hA _ (List.mem_singleton.mpr rfl)).trans e) (r.step h h2)
  | dct e r => exact .dct ((hA _ (List.mem_singleton.mpr rfl)).trans e) (r.step h h2)
  | src e e2 ne => exact .src ((hA _ (by simp)).trans e) ((hA _ (by simp)).trans e2) ne
  | scr e =>
    refine .scr ?_
    rcases e with ⟨o, e⟩ | e
    · refine .inl ⟨o, h _ _ e fun z => ?_⟩
      rcases hw _ z with ⟨_, q⟩ | ⟨_, q⟩ <;> (rw [e] at q; cases q)
    · exact .inr e
/-- less to be kept away from -/
theorem SlotRep.mono {fl : Fl} {v : V} {d : Dt} {A : List Addr} (r : SlotRep K W H fl v d A) (h2 : ∀ a, W' a → W a) (hw : ∀ a, W a → mu H a) : SlotRep K W' H fl v d A :=
  r.step (fun _ _ e _ => e) (fun a z => .inl (h2 a z)) (fun _ _ => rfl) hw
/-- an owned value, kept as a shared one -/
theorem SlotRep.share {v : V} {d : Dt} {A : List Addr} {fl : Fl} (hf : keep? fl = true) (r : SlotRep K W H fl v d A) (h2 : ∀ a, W' a → W a) (hn : ∀ a ∈ A, ¬ W' a) : Rep K W' H d v := by
  have mo : ∀ a, W' a → W a ∨ H a = none := fun a z => .inl (h2 a z)
  have ke : ∀ b o, H b = some o → ¬ W b → H b = some o := fun _ _ e _ => e
  cases r with
  | sh r => exact r.step ke mo
  | lst e r => exact ⟨_, _, rfl, ⟨e, hn _ (List.mem_singleton.mpr rfl)⟩, r.step ke mo⟩
  | dct e r => exact ⟨_, _, rfl, ⟨.inl e, hn _ (List.mem_singleton.mpr rfl)⟩, r.step ke mo⟩
  | src _ _ _ => cases hf
  | scr _ => cases hf
end
/-- the slots ρ stand at σ: F their own objects, S what else must not be touched -/
structure EnvOk (K : PySem.W.Frag) (S : Addr → Prop) (F : Fs) (ρ : En) (σ : L2.St) (H : Hp) : Prop where
  len : ρ.length = σ.length
  slot : ∀ i fl d, rd ρ i = some (fl, d) → ∃ v, σ[i]? = some (some v) ∧ SlotRep K (Wt S F) H fl v d (F i)
  emp : ∀ i, rd ρ i = none → F i = []
  dis : ∀ i j a, a ∈ F i → a ∈ F j → i = j
  ext : ∀ i a, a ∈ F i → ¬ S a
  wf : ∀ a, S a → mu H a
/-- what else than the slots' own objects stands as it stood; the new own ones are old own ones or new objects -/
structure Fr (F : Fs) (H : Hp) (F' : Fs) (H' : Hp) : Prop where
  keep : ∀ b o, H b = some o → (∀ i, b ∉ F i) → H' b = some o
  new : ∀ i b, b ∈ F' i → (∃ j, b ∈ F j) ∨ H b = none
  there : ∀ b, H b ≠ none → H' b ≠ none
theorem Fr.refl (F : Fs) (H : Hp) : Fr F H F H := ⟨fun _ _ e _ => e, fun i _ e => .inl ⟨i, e⟩, fun _ h => h⟩
theorem Fr.trans {F F1 F2 : Fs} {H H1 H2 : Hp} (a : Fr F H F1 H1) (b : Fr F1 H1 F2 H2) : Fr F H F2 H2 := by
  have old : ∀ c, (∃ i, c ∈ F1 i) → (∃ j, c ∈ F j) ∨ H c = none := fun c ⟨i, e⟩ => a.new i c e
  refine ⟨fun c o e n => b.keep c o (a.keep c o e n) fun i z => ?_, fun i c e => ?_, fun c h => b.there c (a.there c h)⟩
  · rcases a.new i c z with ⟨j, q⟩ | q
    · exact n j q
    · rw [q] at e; cases e
  · rcases b.new i c e with z | z
    · exact old c z
    · cases q : H c with
      | none => exact .inr rfl
      | some o => exact absurd z (a.there c (by rw [q]; exact Option.some_ne_none _))
section
variable {K : PySem.W.Frag} {S S' : Addr → Prop} {F F' : Fs} {ρ ρ' : En} {σ : L2.St} {H H' : Hp}
theorem EnvOk.wt (e : EnvOk K S F ρ σ H) : ∀ a, Wt S F a → mu H a := fun a h => by
  rcases h with h | ⟨i, h⟩
  · exact e.wf a h
  · cases q : rd ρ i with
    | none => rw [e.emp i q] at h; cases h
    | some sl =>
      obtain ⟨v, _, r⟩ := e.slot i sl.1 sl.2 q
      exact r.mus a h
theorem EnvOk.wfree (e : EnvOk K S F ρ σ H) {p : Addr} (h : H p = none) : ¬ Wt S F p := fun z => (e.wt p z).ne h
/-- all that is tracked is kept -/
theorem EnvOk.same (e : EnvOk K S F ρ σ H) (h : Same H H') : EnvOk K S F ρ σ H' := by
  refine ⟨e.len, fun i fl d q => ?_, e.emp, e.dis, e.ext, fun a z => ?_⟩
  · obtain ⟨v, hv, r⟩ := e.slot i fl d q
    refine ⟨v, hv, r.step (fun b o q _ => h b o q) (fun a z => .inl z) (fun a z => ?_) e.wt⟩
    rcases r.mus a z with ⟨_, q⟩ | ⟨_, q⟩ <;> (rw [q]; exact h _ _ q)
  · rcases e.wf a z with ⟨_, q⟩ | ⟨_, q⟩
    · exact .inl ⟨_, h _ _ q⟩
    · exact .inr ⟨_, h _ _ q⟩
theorem Fr.same (h : Same H H') : Fr F H F H' := ⟨fun b o e _ => h b o e, fun i _ e => .inl ⟨i, e⟩, fun b n z => by
  cases q : H b with
  | none => exact n q
  | some o => rw [h b o q] at z; cases z⟩
theorem same_upd {p : Addr} {o : HO} (h : H p = none) : Same H (upd H p o) := fun b u e => by
  rw [upd_ne (ne_of_none e h)]
  exact e
/-- a new value in a slot -/
theorem EnvOk.set {A : List Addr} {i : Nat} {fl : Fl} {d : Dt} {v : V} (e : EnvOk K (addS S A) F ρ σ H) (r : SlotRep K (Wt (addS S A) F) H fl v d A) (hi : i < ρ.length) (hS : ∀ a ∈ A, ¬ S a) :
    EnvOk K S (setF F i A) (ρ.set i (some (fl, d))) (σ.set i (some v)) H := by
  have sub : ∀ a, Wt S (setF F i A) a → Wt (addS S A) F a := fun a h => by
    rcases h with h | ⟨j, h⟩
    · exact .inl (.inl h)
    · by_cases hj : j = i
      · subst hj; rw [setF_same] at h; exact .inl (.inr h)
      · rw [setF_ne hj] at h; exact .inr ⟨j, h⟩
  have hrd : ∀ j, j ≠ i → rd (ρ.set i (some (fl, d))) j = rd ρ j := fun j hj => by
    unfold rd
    rw [List.getElem?_set_ne (Ne.symm hj)]
  have hrs : rd (ρ.set i (some (fl, d))) i = some (fl, d) := by
    unfold rd
    rw [List.getElem?_set_self hi]
    rfl
  refine ⟨by simp [e.len], fun j fl' d' q => ?_, fun j q => ?_, fun j k a h1 h2 => ?_, fun j a h => ?_, fun a h => e.wf a (.inl h)⟩
  · by_cases hj : j = i
    · subst hj
      rw [hrs] at q
      cases q
      rw [setF_same, List.getElem?_set_self (by rw [← e.len]; exact hi)]
      exact ⟨v, rfl, r.mono sub e.wt⟩
    · rw [hrd j hj] at q
      obtain ⟨v', hv, r'⟩ := e.slot j fl' d' q
      rw [setF_ne hj, List.getElem?_set_ne (Ne.symm hj)]
      exact ⟨v', hv, r'.mono sub e.wt⟩
  · by_cases hj : j = i
    · subst hj; rw [hrs] at q; cases q
    · rw [hrd j hj] at q
      rw [setF_ne hj]
      exact e.emp j q
  · by_cases hj : j = i
    · by_cases hk : k = i
      · rw [hj, hk]
      · subst hj
        rw [setF_same] at h1
        rw [setF_ne hk] at h2
        exact absurd (.inr h1) (e.ext k a h2)
    · by_cases hk : k = i
      · subst hk
        rw [setF_same] at h2
        rw [setF_ne hj] at h1
        exact absurd (.inr h2) (e.ext j a h1)
      · rw [setF_ne hj] at h1
        rw [setF_ne hk] at h2
        exact e.dis j k a h1 h2
  · by_cases hj : j = i
    · subst hj
      rw [setF_same] at h
      exact hS a h
    · rw [setF_ne hj] at h
      exact fun z => e.ext j a h (.inl z)
/-- a slot is let go: its own objects stand outside now -/
theorem EnvOk.drop (e : EnvOk K S F ρ σ H) (i : Nat) : EnvOk K (addS S (F i)) (setF F i []) (ρ.set i none) σ H := by
  have sub : ∀ a, Wt (addS S (F i)) (setF F i []) a → Wt S F a := fun a h => by
    rcases h with (h | h) | ⟨j, h⟩
    · exact .inl h
    · exact .inr ⟨i, h⟩
    · by_cases hj : j = i
      · subst hj; rw [setF_same] at h; cases h
      · rw [setF_ne hj] at h; exact .inr ⟨j, h⟩
  have hrd : ∀ j, j ≠ i → rd (ρ.set i none) j = rd ρ j := fun j hj => by
    unfold rd
    rw [List.getElem?_set_ne (Ne.symm hj)]
  have hrs : rd (ρ.set i none) i = none := by
    unfold rd
    by_cases h : i < ρ.length
    · rw [List.getElem?_set_self h]; rfl
    · rw [List.getElem?_eq_none (by simp; omega)]; rfl
  refine ⟨by simp [e.len], fun j fl' d' q => ?_, fun j q => ?_, fun j k a h1 h2 => ?_, fun j a h => ?_, fun a h => e.wt a ?_⟩
  · by_cases hj : j = i
    · subst hj; rw [hrs] at q; cases q
    · rw [hrd j hj] at q
      obtain ⟨v', hv, r'⟩ := e.slot j fl' d' q
      rw [setF_ne hj]
      exact ⟨v', hv, r'.mono sub e.wt⟩
  · by_cases hj : j = i
    · subst hj; exact setF_same
    · rw [hrd j hj] at q
      rw [setF_ne hj]
      exact e.emp j q
  · by_cases hj : j = i
    · subst hj; rw [setF_same] at h1; cases h1
    · by_cases hk : k = i
      · subst hk; rw [setF_same] at h2; cases h2
      · rw [setF_ne hj] at h1
        rw [setF_ne hk] at h2
        exact e.dis j k a h1 h2
  · by_cases hj : j = i
    · subst hj; rw [setF_same] at h; cases h
    · rw [setF_ne hj] at h
      rintro (z | z)
      · exact e.ext j a h z
      · exact hj (e.dis j i a h z)
  · rcases h with h | h
    · exact .inl h
    · exact .inr ⟨i, h⟩
/-- fewer things outside -/
theorem EnvOk.weak (e : EnvOk K S F ρ σ H) (h : ∀ a, S' a → S a) : EnvOk K S' F ρ σ H := by
  have sub : ∀ a, Wt S' F a → Wt S F a := fun a q => q.imp (h a) id
  refine ⟨e.len, fun i fl d q => ?_, e.emp, e.dis, fun i a z q => e.ext i a z (h a q), fun a z => e.wf a (h a z)⟩
  obtain ⟨v, hv, r⟩ := e.slot i fl d q
  exact ⟨v, hv, r.mono sub e.wt⟩
theorem addS_nil {a : Addr} : addS S [] a ↔ S a := ⟨fun h => Or.elim h id (fun z => by cases z), fun h => Or.inl h⟩
theorem EnvOk.nil (e : EnvOk K S F ρ σ H) : EnvOk K (addS S []) F ρ σ H := by
  have : addS S [] = S := funext fun a => propext addS_nil
  rw [this]
  exact e
theorem EnvOk.unnil (e : EnvOk K (addS S []) F ρ σ H) : EnvOk K S F ρ σ H := e.weak fun _ => .inl
/-- the object of an owned slot is changed -/
theorem EnvOk.put {i : Nat} {a : Addr} {o : HO} {fl : Fl} {d : Dt} {v : V} (e : EnvOk K S F ρ σ H) (hi : i < ρ.length) (ha : a ∈ F i) (hv : σ[i]? = some (some v)) (ho : mu (upd H a o) a)
    (r : SlotRep K (Wt S F) (upd H a o) fl v d (F i)) : EnvOk K S F (ρ.set i (some (fl, d))) σ (upd H a o) := by
  have ke : ∀ b u, H b = some u → ¬ Wt S F b → upd H a o b = some u := fun b u q n => by
    rw [upd_ne fun z => n (.inr ⟨i, by rw [z]; exact ha⟩)]
    exact q
  have hrd : ∀ j, j ≠ i → rd (ρ.set i (some (fl, d))) j = rd ρ j := fun j hj => by
    unfold rd
    rw [List.getElem?_set_ne (Ne.symm hj)]
  have hrs : rd (ρ.set i (some (fl, d))) i = some (fl, d) := by
    unfold rd
    rw [List.getElem?_set_self hi]
    rfl
  refine ⟨by simp [e.len], fun j fl' d' q => ?_, fun j q => ?_, e.dis, e.ext, fun b z => ?_⟩
  · by_cases hj : j = i
    · subst hj
      rw [hrs] at q
      cases q
      exact ⟨v, hv, r⟩
    · rw [hrd j hj] at q
      obtain ⟨v', hv', r'⟩ := e.slot j fl' d' q
      refine ⟨v', hv', r'.step ke (fun _ z => .inl z) (fun b hb => upd_ne fun z => ?_) e.wt⟩
      rw [z] at hb
      exact hj (e.dis j i a hb ha)
  · by_cases hj : j = i
    · subst hj; rw [hrs] at q; cases q
    · rw [hrd j hj] at q
      exact e.emp j q
  · have hb : b ≠ a := fun q => e.ext i a ha (by rw [← q]; exact z)
    rcases e.wf b z with ⟨_, q⟩ | ⟨_, q⟩
    · exact .inl ⟨_, by rw [upd_ne hb]; exact q⟩
    · exact .inr ⟨_, by rw [upd_ne hb]; exact q⟩
theorem Fr.put {i : Nat} {a : Addr} {o : HO} (ha : a ∈ F i) : Fr F H F (upd H a o) :=
  ⟨fun b u q n => by rw [upd_ne fun z => n i (by rw [z]; exact ha)]; exact q, fun i _ q => .inl ⟨i, q⟩, fun b h z => by
    by_cases hb : b = a
    · subst hb; rw [upd_same] at z; cases z
    · rw [upd_ne hb] at z; exact h z⟩
end
end Mini

end
section
set_option Elab.async false
set_option linter.all false
set_option maxRecDepth 100000
set_option maxHeartbeats 4000000
/-! Mini, part 4: operators by values. -/
namespace Mini
open PySem PySem.Spec PyProof.Rows L2
section
variable (K : PySem.W.Frag) (W : Addr → Prop) (H : Hp)
/-- v is to be read as the data: its own object may be anybody's, what is within is not at W -/
def RdW : Dt → V → Prop
  | .list ds, v => ∃ a xs, v = .ref a ∧ H a = some (.lst xs) ∧ Reps K W H ds xs
  | .tuple ds, v => Rep K W H (.tuple ds) v
  | .dict es, v => ∃ a kvs, v = .ref a ∧ Rd H a (.dK kvs) ∧ RepKv K W H es kvs
  | .none, v => v = .non
  | .bool b, v => v = .bl b
  | .int i, v => v = .int i
  | .str x, v => v = .str x
/-- a value that an operator has made -/
inductive NewV : Sl → V → Hp → Prop
  | old {d : Dt} {v : V} : Rep K W H d v → NewV (.sh, d) v H
  | lst {p : Addr} {ds : List Dt} {xs : List V} : H p = none → Reps K W H ds xs → NewV (.own, .list ds) (.ref p) (upd H p (.lst xs))
  | tup {p : Addr} {ds : List Dt} {xs : List V} : H p = none → Reps K W H ds xs → NewV (.sh, .tuple ds) (.ref p) (upd H p (.tup xs))
  | dct {p : Addr} {es : List (Dt × Dt)} {kvs : List (Key × V)} : H p = none → RepKv K W H es kvs → NewV (.own, .dict es) (.ref p) (upd H p (.dK kvs))
end
def rMk (K : PySem.W.Frag) (g : Dt → Dt → Option Sl) : R2 := fun x y H Q => ∃ W d e z, RdW K W H d x ∧ RdW K W H e y ∧ g d e = some z ∧ ∀ v H', NewV K W H z v H' → Q v H'
def rMk1 (K : PySem.W.Frag) (g : Dt → Option Sl) : List V → Hp → VK → Prop := fun xs H Q => ∃ W d z x, xs = [x] ∧ RdW K W H d x ∧ g d = some z ∧ ∀ v H', NewV K W H z v H' → Q v H'
def rMk2 (K : PySem.W.Frag) (g : Dt → Dt → Option Sl) : List V → Hp → VK → Prop := fun xs H Q => ∃ W d e z x y, xs = [x, y] ∧ RdW K W H d x ∧ RdW K W H e y ∧ g d e = some z ∧ ∀ v H', NewV K W H z v H' → Q v H'
section
variable {K : PySem.W.Frag} {W : Addr → Prop} {H : Hp}
theorem Rep.rd : ∀ {d : Dt} {v : V}, Rep K W H d v → RdW K W H d v
  | .none, _, r => r
  | .bool _, _, r => r
  | .int _, _, r => r
  | .str _, _, r => r
  | .list _, _, ⟨a, xs, e, ⟨r, _⟩, q⟩ => ⟨a, xs, e, r, q⟩
  | .tuple _, _, r => r
  | .dict _, _, ⟨a, xs, e, ⟨r, _⟩, q⟩ => ⟨a, xs, e, r, q⟩
mutual
theorem Rep.dp : ∀ {d : Dt} {v : V}, noDict d = true → Rep K W H d v → Dp K H v d
  | .none, _, _, r => by rw [show _ = V.non from r]; exact .non
  | .bool b, _, _, r => by rw [show _ = V.bl b from r]; exact .bl b
  | .int i, _, _, r => by rw [show _ = V.int i from r]; exact .int i
  | .str x, _, _, r => by rw [show _ = V.str x from r]; exact .str x
  | .list ds, _, n, ⟨a, xs, e, ⟨r, _⟩, q⟩ => by subst e; exact .lst (SqL.of r) (Reps.dp (by simpa [noDict] using n) q)
  | .tuple ds, _, n, ⟨a, xs, e, r, q⟩ => by
    subst e
    refine .tup ?_ (Reps.dp (by simpa [noDict] using n) q)
    rcases r with ⟨r, _⟩ | r
    · exact SqT.of r
    · exact .inr r
  | .dict _, _, n, _ => by simp [noDict] at n
theorem Reps.dp : ∀ {ds : List Dt} {xs : List V}, noDicts ds = true → Reps K W H ds xs → DpAll K H xs ds
  | [], _, _, r => by rw [show _ = _ from r]; exact .nil
  | d :: ds, _, n, ⟨x, r, e, q1, q2⟩ => by
    subst e
    have n' : noDict d = true ∧ noDicts ds = true := by simpa [noDicts] using n
    exact .cons (Rep.dp n'.1 q1) (Reps.dp n'.2 q2)
end
theorem RdW.dp : ∀ {d : Dt} {v : V}, noDict d = true → RdW K W H d v → Dp K H v d
  | .none, _, _, r => by rw [show _ = V.non from r]; exact .non
  | .bool b, _, _, r => by rw [show _ = V.bl b from r]; exact .bl b
  | .int i, _, _, r => by rw [show _ = V.int i from r]; exact .int i
  | .str x, _, _, r => by rw [show _ = V.str x from r]; exact .str x
  | .list ds, _, n, ⟨a, xs, e, r, q⟩ => by subst e; exact .lst (SqL.of r) (Reps.dp (by simpa [noDict] using n) q)
  | .tuple ds, _, n, r => Rep.dp n r
  | .dict _, _, n, _ => by simp [noDict] at n
mutual
theorem noDict_of : ∀ {d : Dt}, d.canLay0 = true → noDict d = true
  | .none, _ => rfl
  | .bool _, _ => rfl
  | .int _, _ => rfl
  | .str _, _ => rfl
  | .list ds, h => by simp only [noDict]; exact noDicts_of (by simpa [PyData.canLay0] using h)
  | .tuple ds, h => by simp only [noDict]; exact noDicts_of (by simpa [PyData.canLay0] using h)
  | .dict _, h => by simp [PyData.canLay0] at h
theorem noDicts_of : ∀ {ds : List Dt}, PyData.canLayAll0 ds = true → noDicts ds = true
  | [], _ => rfl
  | d :: ds, h => by
    have h' : d.canLay0 = true ∧ PyData.canLayAll0 ds = true := by simpa [PyData.canLayAll0] using h
    simp only [noDicts, Bool.and_eq_true]
    exact ⟨noDict_of h'.1, noDicts_of h'.2⟩
end
theorem noDict_flat {d : Dt} (h : flat d = true) : noDict d = true := noDict_of (SeqAt.canLay_of_shaped h)
theorem lim_line {n : Nat} (h : n ≤ lim) : n ≤ sizeLine := Nat.le_trans h (by decide)
theorem RdW.seq {ds : List Dt} : ∀ {d : Dt} {v : V}, seqOf d = some ds → RdW K W H d v → ∃ a xs, v = .ref a ∧ (SqT K H a xs ∨ SqL K H a xs) ∧ Reps K W H ds xs
  | .list es, _, h, ⟨a, xs, e, r, q⟩ => by cases (show some es = some ds from h); exact ⟨a, xs, e, .inr (SqL.of r), q⟩
  | .tuple es, _, h, r => by
    cases (show some es = some ds from h)
    obtain ⟨a, xs, e, r, q⟩ := r.tup
    exact ⟨a, xs, e, .inl r, q⟩
end
section
variable {X : Cx}
def boOp : Bo → Operator
  | .add => .Add | .sub => .Sub | .mul => .Mult | .fdiv => .FloorDiv | .mod => .Mod | .pow => .Pow | .shl => .LShift
theorem mul_ok {i j : Int} (h : mulOk i j = true) : IntMulOk i j := by
  unfold mulOk at h
  simp only [Bool.or_eq_true, decide_eq_true_eq] at h
  rcases h with (h | h) | h
  · exact CMul.ok (.inl (by omega))
  · exact CMul.ok (.inr (by omega))
  · exact CMulW.ok h
theorem op_mulM : OpR X (binaryOp .Mult) (rI (fun i j => mulOk i j = true) fun i j => .int (i * j)) := opI fun _ _ _ _ _ _ _ hc q => mul_int q (mul_ok hc)
theorem op_fdivM : OpR X (binaryOp .FloorDiv) (rI (fun _ j => divOk j = true) fun i j => .int (i.fdiv j)) := opI fun i j _ _ _ _ _ hc q => by
  unfold divOk at hc
  simp only [Bool.and_eq_true, decide_eq_true_eq] at hc
  exact floordiv_int hc.1 q (.inl (PyProof.noPylong_of_log2 hc.2))
theorem op_bin (o : Bo) : OpR X (binaryOp (boOp o)) (rMk X.K (binD o)) := by
  intro pins s σ H x y v u Q I rx ry h
  obtain ⟨W, d, e, z, h1, h2, h3, h4⟩ := h
  unfold binD at h3
  split at h3
  · cases (show x = _ from h1); cases (show y = _ from h2)
    cases h3
    exact op_add pins s σ H _ _ v u Q I rx ry ⟨_, _, rfl, rfl, h4 _ _ (.old rfl)⟩
  · cases (show x = _ from h1); cases (show y = _ from h2)
    split at h3 <;> cases h3
    exact op_add_str pins s σ H _ _ v u Q I rx ry ⟨_, _, rfl, rfl, lim_line (by assumption), h4 _ _ (.old rfl)⟩
  · obtain ⟨a, xs, rfl, r1, q1⟩ := h1
    obtain ⟨b, ys, rfl, r2, q2⟩ := h2
    split at h3 <;> cases h3
    rename_i hl
    rw [q1.length, q2.length] at hl
    exact op_cat pins s σ H _ _ v u Q I rx ry ⟨_, _, _, _, rfl, rfl, r1, r2, lim_line hl, fun p np => h4 _ _ (.lst np (q1.append q2))⟩
  · have k1 : Rep X.K W H _ x := h1
    have k2 : Rep X.K W H _ y := h2
    obtain ⟨a, xs, rfl, r1, q1⟩ := k1.tup
    obtain ⟨b, ys, rfl, r2, q2⟩ := k2.tup
    split at h3 <;> cases h3
    rename_i hl
    have l1 := q1.length
    have l2 := q2.length
    rw [l1, l2] at hl
    refine op_catA pins s σ H _ _ v u Q I rx ry ⟨_, _, _, _, rfl, rfl, r1, r2, lim_line hl, fun e1 => ?_, fun _ e2 => ?_, fun _ _ p np => h4 _ _ (.tup np (q1.append q2))⟩
    · subst e1
      have e : _ = [] := List.eq_nil_of_length_eq_zero l1
      rw [e, List.nil_append] at h4
      exact h4 _ _ (.old k2)
    · subst e2
      have e : _ = [] := List.eq_nil_of_length_eq_zero l2
      rw [e, List.append_nil] at h4
      exact h4 _ _ (.old k1)
  · cases (show x = _ from h1); cases (show y = _ from h2)
    cases h3
    exact op_sub pins s σ H _ _ v u Q I rx ry ⟨_, _, rfl, rfl, h4 _ _ (.old rfl)⟩
  · cases (show x = _ from h1); cases (show y = _ from h2)
    split at h3 <;> cases h3
    exact op_mulM pins s σ H _ _ v u Q I rx ry ⟨_, _, rfl, rfl, by assumption, h4 _ _ (.old rfl)⟩
  · obtain ⟨a, xs, rfl, r1, q1⟩ := h1
    cases (show y = _ from h2)
    split at h3 <;> cases h3
    rename_i hl
    rw [q1.length] at hl
    exact op_rep pins s σ H _ _ v u Q I rx ry ⟨_, _, _, rfl, rfl, r1, by omega, by omega, lim_line hl.1, fun p np => h4 _ _ (.lst np (q1.rep _))⟩
  · cases (show x = _ from h1); cases (show y = _ from h2)
    split at h3 <;> cases h3
    exact op_fdivM pins s σ H _ _ v u Q I rx ry ⟨_, _, rfl, rfl, by assumption, h4 _ _ (.old rfl)⟩
  · cases (show x = _ from h1); cases (show y = _ from h2)
    split at h3 <;> cases h3
    exact op_modN pins s σ H _ _ v u Q I rx ry ⟨_, _, rfl, rfl, by assumption, h4 _ _ (.old rfl)⟩
  · cases (show x = _ from h1); cases (show y = _ from h2)
    split at h3 <;> cases h3
    exact op_pow pins s σ H _ _ v u Q I rx ry ⟨_, _, rfl, rfl, by assumption, h4 _ _ (.old rfl)⟩
  · cases (show x = _ from h1); cases (show y = _ from h2)
    split at h3 <;> cases h3
    exact op_shl pins s σ H _ _ v u Q I rx ry ⟨_, _, rfl, rfl, by assumption, h4 _ _ (.old rfl)⟩
  · cases h3
end
end Mini

end
section
set_option Elab.async false
set_option linter.all false
set_option maxRecDepth 100000
set_option maxHeartbeats 4000000
/-! Mini, part 5: comparisons, subscripts, cuts, built-in functions by values. -/
namespace Mini
open PySem PySem.Spec PyProof.Rows L2
section
variable {prog : Program} {w : World} {A : Around} {E : Value → Shared → Prop} {s : Shared}
theorem rev_applied {sl : Addr} {vl vu vs : Value} {n : Nat} {Q : Int × Int × Nat → Shared → Prop} (hs : s.heap.IsSliceOf sl vl vu vs) (pl : IsPart vl none) (pu : IsPart vu none) (ps : IsPart vs (some (-1)))
    (h : Q ((n : Int) - 1, -1, n) s) : wpAny (model prog w) A (Builtin.Slice.sliceApplied (.ref sl) (pure (n : Int))) Q E s := by
  obtain ⟨ob, hob, _, hdt⟩ := id hs
  unfold Builtin.Slice.sliceApplied Builtin.Slice.sliceFields
  refine wpAny_bind (wpAny_bind (wpAny_field hob hdt (x := vl) rfl (wpAny_bind (wpAny_field hob hdt (x := vu) rfl (wpAny_bind (wpAny_field hob hdt (x := vs) rfl (wpAny_pure ?_)))))))
  refine wpAny_bind (HT.slicePart_ ps ?_)
  show wpAny _ _ (if ((-1 : Int) == 0) = true then _ else _) _ _ s
  rw [if_neg (by decide)]
  refine wpAny_bind (HT.slicePart_ pl (wpAny_bind (HT.slicePart_ pu (wpAny_bind (wpAny_pure ?_)))))
  have e1 : Builtin.Slice.sliceAdjust none none (-1) (n : Int) = ((n : Int) - 1, -1) := rfl
  have e2 : Builtin.Slice.slicePlaces ((n : Int) - 1) (-1) (-1) = n := by
    unfold Builtin.Slice.slicePlaces
    rw [if_neg (by decide)]
    by_cases h0 : n = 0
    · subst h0; rfl
    · rw [if_pos (by omega)]
      have : (-(-1 : Int)) = 1 := rfl
      rw [this, Int.ediv_one]
      omega
  show wpAny _ _ (match Builtin.Slice.sliceAdjust none none (-1) (n : Int) with | (lo, hi) => pure (lo, (-1 : Int), Builtin.Slice.slicePlaces lo hi (-1))) _ _ s
  rw [e1]
  show wpAny _ _ (pure (((n : Int) - 1), (-1 : Int), Builtin.Slice.slicePlaces ((n : Int) - 1) (-1) (-1))) _ _ s
  rw [e2]
  exact wpAny_pure h
theorem fm_congr {α β : Type} {f g : α → Option β} : ∀ {l : List α}, (∀ a ∈ l, f a = g a) → l.filterMap f = l.filterMap g
  | [], _ => rfl
  | a :: l, h => by
    rw [List.filterMap_cons, List.filterMap_cons, h a (List.mem_cons_self ..), fm_congr fun b hb => h b (List.mem_cons_of_mem _ hb)]
theorem rev_pick (xs : Array Value) : ((List.range xs.size).filterMap fun (k : Nat) => xs[(((xs.size : Nat) : Int) - 1 + (k : Int) * (-1)).toNat]?).toArray = xs.toList.reverse.toArray := by
  have e : ∀ k, k ∈ List.range xs.size → xs[(((xs.size : Nat) : Int) - 1 + (k : Int) * (-1)).toNat]? = xs[xs.size - 1 - k]? := fun k hk => by
    have h := List.mem_range.mp hk
    have : (((xs.size : Nat) : Int) - 1 + (k : Int) * (-1)).toNat = xs.size - 1 - k := by omega
    rw [this]
  rw [fm_congr e]
  have e2 : (List.range xs.size).filterMap (fun k => xs[xs.size - 1 - k]?) = ((List.range xs.size).map fun k => xs.size - 1 - k).filterMap (xs[·]?) := by
    rw [List.filterMap_map]
    rfl
  rw [e2, PySem.W.krv_range, List.filterMap_reverse, PySem.W.krv_all]
theorem getItem_tuple_rev {t sl : Addr} {items : Array Value} {vl vu vs : Value} {Q : Value → Shared → Prop} (ht : IsTup s.heap t items) (hs : s.heap.IsSliceOf sl vl vu vs) (pl : IsPart vl none) (pu : IsPart vu none) (ps : IsPart vs (some (-1)))
    (h : Q (.ref s.heap.objs.size) { s with heap := s.heap.push { cls := .type "tuple", data := .seq items.toList.reverse.toArray } }) (hsz : items.size ≤ sizeLine) : wpAny (model prog w) A (getItem (.ref t) (.ref sl)) Q E s := by
  have hok : sizeOk (.seq items.toList.reverse.toArray) := by
    show items.toList.reverse.toArray.size ≤ sizeLine
    simpa using hsz
  obtain ⟨ob, hob, hcl, _⟩ := id hs
  have hTs : s.TypeIs (.ref sl) "slice" := ⟨ob, hob, hcl⟩
  unfold getItem
  try with_reducible refine wpAny_holding ?_
  first | refine wpAny_bind (wpAny_pure ?_) | skip
  refine wpAny_bind (wpAny_sequenceKey ht.typeIs (by decide) ?_)
  refine wpAny_bind (wpAny_callSpecial?_slot (name := Str.ofString "__getitem__") ht.typeIs PyProof.Rows.slot_tuple_getitem
    (wpAny_call_entry PyProof.Rows.slot_tuple_getitem ht.typeIs entry_tuple_getitem ?_ (args_tuple_getitem _ _)))
  show wpAny _ _ (Builtin.Tuple.tupleItemsOf (.ref t) >>= _) _ _ s
  refine wpAny_bind (tupleItemsOf_ ht ?_)
  refine wpAny_bind (wpAny_typeOf hTs ?_)
  rw [if_pos (by decide)]
  refine wpAny_bind (rev_applied hs pl pu ps ?_)
  have hno : ¬ (((((items.size : Nat) : Int) - 1) == 0 && (-1 : Int) == 1 && items.size == items.size) = true) := by
    intro q
    rw [Bool.and_eq_true, Bool.and_eq_true] at q
    exact absurd q.1.2 (by decide)
  show wpAny _ _ (if ((((items.size : Nat) : Int) - 1) == 0 && (-1 : Int) == 1 && items.size == items.size) = true then _ else _) _ _ s
  rw [if_neg hno, rev_pick]
  first
    | exact wpAny_bind (m := Builtin.Tuple.tupleExact _) (wpAny_newObj_type (wpAny_pure ⟨_, rfl, wpAny_pure h⟩) hok)
    | exact wpAny_bind (m := Builtin.Tuple.tupleExact _) (wpAny_newObj_type (wpAny_bind (wpAny_pure (wpAny_pure ⟨_, rfl, wpAny_pure h⟩))) hok)
    | exact wpAny_bind (wpAny_bind (m := Builtin.Tuple.tupleExact _) (wpAny_newObj_type (wpAny_pure (wpAny_pure ⟨_, rfl, wpAny_pure h⟩)) hok))
    | exact wpAny_bind (wpAny_bind (m := Builtin.Tuple.tupleExact _) (wpAny_newObj_type (wpAny_pure ⟨_, rfl, wpAny_pure h⟩) hok))
end
theorem keyOf {d : Dt} (h : isKey d = true) : ∃ k, d = keyD k := by
  cases d with
  | int i => exact ⟨.inl i, rfl⟩
  | str x => exact ⟨.inr x, rfl⟩
  | _ => cases h
theorem eqK_key (k j : Key) : eqK (keyD k) (keyD j) = decide (k = j) := by
  cases k <;> cases j <;> simp [eqK, keyD]
theorem RepKv.get {K : PySem.W.Frag} {W : Addr → Prop} {H : Hp} {k : Key} : ∀ {es : List (Dt × Dt)} {kvs : List (Key × V)}, RepKv K W H es kvs → (kvGet es (keyD k) = none ∧ valV kvs k = none) ∨ ∃ d v, kvGet es (keyD k) = some d ∧ valV kvs k = some v ∧ Rep K W H d v
  | [], _, r => by rw [show _ = _ from r]; exact .inl ⟨rfl, rfl⟩
  | (kd, d) :: es, _, ⟨j, v, q, e, e1, r, rs⟩ => by
    subst e e1
    by_cases hj : j = k
    · subst hj
      refine .inr ⟨d, v, ?_, ?_, r⟩
      · simp [kvGet, eqK_key]
      · exact valV_pos rfl
    · have e1 : kvGet ((keyD j, d) :: es) (keyD k) = kvGet es (keyD k) := by simp [kvGet, eqK_key, hj]
      rw [e1, valV_neg (p := (j, v)) hj]
      exact RepKv.get rs
theorem isKey_V {K : PySem.W.Frag} {W : Addr → Prop} {H : Hp} {k : Key} {y : V} (h : RdW K W H (keyD k) y) : y = kV k := by
  cases k <;> exact h
section
variable {X : Cx} {pins : List (Addr × Obj)} {σ : L2.St} {H : Hp} {s : Shared} {x y : V} {v u : Value} {Q : VK} {W : Addr → Prop} {d e : Dt} {b : Bool}
theorem inn_mini (hu : X.A.units + 65 < cLine) (I : L2.Inv X pins σ H s) (rx : RelV x v) (ry : RelV y u) (h1 : RdW X.K W H d x) (h2 : RdW X.K W H e y) (h3 : inD d e = some b) (h5 : Q (.bl b) H) :
    wpAny (model X.prog X.w) X.A (compareOp .In v u) (EP X pins σ Q) X.xe s := by
  unfold inD at h3
  split at h3
  · split at h3 <;> cases h3
    rename_i hf
    rw [Bool.and_eq_true] at hf
    exact op_inD hu pins s σ H x y v u Q I rx ry ⟨_, _, h1.dp (noDict_flat hf.1), h2.dp (noDict_flat hf.2), hf.1, hf.2, h5⟩
  · split at h3 <;> cases h3
    rename_i hf
    simp only [Bool.and_eq_true] at hf
    obtain ⟨⟨⟨⟨p1, _⟩, f1⟩, f2⟩, p2⟩ := hf
    obtain ⟨as, r1⟩ := Dp.reads I _ x v (h1.dp (noDict_flat f1)) rx
    obtain ⟨bs, r2⟩ := Dp.reads I _ y u (h2.dp (noDict_flat f2)) ry
    exact SeqAt.in_tuple_data r2 r1 p2 p1 (by have := SeqAt.depth_of_shaped f1; omega) ⟨.bl _, H, I, rfl, h5⟩
  · split at h3 <;> cases h3
    rename_i es hk
    obtain ⟨k, rfl⟩ := keyOf hk
    obtain ⟨a, kvs, rfl, rd, rk⟩ := h2
    cases ry
    have hx := isKey_V h1
    subst hx
    have g : DGet H a (kV k) (valV kvs k) := .inl ⟨_, _, rd, rfl, rfl⟩
    have e1 : (valV kvs k).isSome = (kvGet es (keyD k)).isSome := by
      rcases rk.get (k := k) with ⟨n1, n2⟩ | ⟨d', v', n1, n2, _⟩
      · rw [n1, n2] <;> rfl
      · rw [n1, n2] <;> rfl
    exact d_in (by omega) I g rx fun s' I' => ⟨.bl _, H, I', rfl, by rw [e1]; exact h5⟩
  · cases h3
theorem nin_mini (hu : X.A.units + 65 < cLine) (I : L2.Inv X pins σ H s) (rx : RelV x v) (ry : RelV y u) (h1 : RdW X.K W H d x) (h2 : RdW X.K W H e y) (h3 : inD d e = some b) (h5 : Q (.bl (!b)) H) :
    wpAny (model X.prog X.w) X.A (compareOp .NotIn v u) (EP X pins σ Q) X.xe s := by
  unfold inD at h3
  split at h3
  · split at h3 <;> cases h3
    rename_i hf
    rw [Bool.and_eq_true] at hf
    exact op_notInD hu pins s σ H x y v u Q I rx ry ⟨_, _, h1.dp (noDict_flat hf.1), h2.dp (noDict_flat hf.2), hf.1, hf.2, h5⟩
  · split at h3 <;> cases h3
    rename_i hf
    simp only [Bool.and_eq_true] at hf
    obtain ⟨⟨⟨⟨p1, _⟩, f1⟩, f2⟩, p2⟩ := hf
    obtain ⟨as, r1⟩ := Dp.reads I _ x v (h1.dp (noDict_flat f1)) rx
    obtain ⟨bs, r2⟩ := Dp.reads I _ y u (h2.dp (noDict_flat f2)) ry
    exact SeqAt.notIn_tuple_data r2 r1 p2 p1 (by have := SeqAt.depth_of_shaped f1; omega) ⟨.bl _, H, I, rfl, h5⟩
  · split at h3 <;> cases h3
    rename_i es hk
    obtain ⟨k, rfl⟩ := keyOf hk
    obtain ⟨a, kvs, rfl, rd, rk⟩ := h2
    cases ry
    have hx := isKey_V h1
    subst hx
    have g : DGet H a (kV k) (valV kvs k) := .inl ⟨_, _, rd, rfl, rfl⟩
    have e1 : (valV kvs k).isSome = (kvGet es (keyD k)).isSome := by
      rcases rk.get (k := k) with ⟨n1, n2⟩ | ⟨d', v', n1, n2, _⟩
      · rw [n1, n2] <;> rfl
      · rw [n1, n2] <;> rfl
    exact d_notIn (by omega) I g rx fun s' I' => ⟨.bl _, H, I', rfl, by rw [e1]; exact h5⟩
  · cases h3
end
section
variable {X : Cx}
def coOp : Co → CmpOp
  | .lt => .Lt | .le => .LtE | .gt => .Gt | .ge => .GtE | .eq => .Eq | .ne => .NotEq | .isN => .Is | .notN => .IsNot | .inn => .In | .nin => .NotIn
abbrev cmpS (o : Co) : Dt → Dt → Option Sl := fun d e => (cmpD o d e).map fun b => (.sh, .bool b)
theorem op_cmp (hu : X.A.units + 65 < cLine) (o : Co) : OpR X (compareOp (coOp o)) (rMk X.K (cmpS o)) := by
  intro pins s σ H x y v u Q I rx ry h
  obtain ⟨W, d, e, z, h1, h2, h3, h4⟩ := h
  obtain ⟨b, h6, e6⟩ := Option.map_eq_some_iff.mp h3
  subst e6
  clear h3
  have h3 := h6
  have h5 := h4 (.bl b) H (.old rfl)
  unfold cmpD at h3
  split at h3
  · cases (show x = _ from h1); cases (show y = _ from h2)
    cases h3
    exact op_lt pins s σ H _ _ v u Q I rx ry ⟨_, _, rfl, rfl, h5⟩
  · cases (show x = _ from h1); cases (show y = _ from h2)
    cases h3
    exact op_le pins s σ H _ _ v u Q I rx ry ⟨_, _, rfl, rfl, h5⟩
  · cases (show x = _ from h1); cases (show y = _ from h2)
    cases h3
    exact op_gt pins s σ H _ _ v u Q I rx ry ⟨_, _, rfl, rfl, h5⟩
  · cases (show x = _ from h1); cases (show y = _ from h2)
    cases h3
    exact op_ge pins s σ H _ _ v u Q I rx ry ⟨_, _, rfl, rfl, h5⟩
  · cases (show x = _ from h1); cases (show y = _ from h2)
    cases h3
    refine op_eq pins s σ H _ _ v u Q I rx ry ⟨rfl, ?_⟩
    rw [dec_int, Bool.beq_eq_decide_eq]
    exact h5
  · cases (show x = _ from h1); cases (show y = _ from h2)
    cases h3
    refine op_ne pins s σ H _ _ v u Q I rx ry ⟨rfl, ?_⟩
    rw [dec_int, Bool.beq_eq_decide_eq]
    exact h5
  · cases (show x = _ from h1); cases (show y = _ from h2)
    cases h3
    refine op_eq pins s σ H _ _ v u Q I rx ry ⟨rfl, ?_⟩
    simpa using h5
  · cases (show x = _ from h1); cases (show y = _ from h2)
    cases h3
    refine op_ne pins s σ H _ _ v u Q I rx ry ⟨rfl, ?_⟩
    simpa using h5
  · split at h3 <;> cases h3
    rename_i hf
    rw [Bool.and_eq_true] at hf
    exact op_eqD (by omega) pins s σ H x y v u Q I rx ry ⟨_, _, h1.dp (noDict_flat hf.1), h2.dp (noDict_flat hf.2), hf.1, hf.2, h5⟩
  · split at h3 <;> cases h3
    rename_i hf
    rw [Bool.and_eq_true] at hf
    exact op_neD (by omega) pins s σ H x y v u Q I rx ry ⟨_, _, h1.dp (noDict_flat hf.1), h2.dp (noDict_flat hf.2), hf.1, hf.2, h5⟩
  · cases (show x = _ from h1); cases (show y = _ from h2)
    cases h3
    exact op_isN pins s σ H _ _ v u Q I rx ry ⟨rfl, h5⟩
  · cases (show x = _ from h1); cases (show y = _ from h2)
    cases h3
    exact op_isN pins s σ H _ _ v u Q I rx ry ⟨rfl, h5⟩
  · obtain ⟨a, xs, rfl, _⟩ := h1
    cases (show y = _ from h2)
    cases h3
    exact op_isN pins s σ H _ _ v u Q I rx ry ⟨rfl, h5⟩
  · obtain ⟨a, xs, rfl, _⟩ := h1
    cases (show y = _ from h2)
    cases h3
    exact op_isN pins s σ H _ _ v u Q I rx ry ⟨rfl, h5⟩
  · cases (show x = _ from h1); cases (show y = _ from h2)
    cases h3
    exact op_isN pins s σ H _ _ v u Q I rx ry ⟨rfl, h5⟩
  · cases (show x = _ from h1); cases (show y = _ from h2)
    cases h3
    exact op_isN pins s σ H _ _ v u Q I rx ry ⟨rfl, h5⟩
  · cases (show x = _ from h1); cases (show y = _ from h2)
    cases h3
    exact op_notN pins s σ H _ _ v u Q I rx ry ⟨rfl, h5⟩
  · cases (show x = _ from h1); cases (show y = _ from h2)
    cases h3
    exact op_notN pins s σ H _ _ v u Q I rx ry ⟨rfl, h5⟩
  · obtain ⟨a, xs, rfl, _⟩ := h1
    cases (show y = _ from h2)
    cases h3
    exact op_notN pins s σ H _ _ v u Q I rx ry ⟨rfl, h5⟩
  · obtain ⟨a, xs, rfl, _⟩ := h1
    cases (show y = _ from h2)
    cases h3
    exact op_notN pins s σ H _ _ v u Q I rx ry ⟨rfl, h5⟩
  · cases (show x = _ from h1); cases (show y = _ from h2)
    cases h3
    exact op_notN pins s σ H _ _ v u Q I rx ry ⟨rfl, h5⟩
  · cases (show x = _ from h1); cases (show y = _ from h2)
    cases h3
    exact op_notN pins s σ H _ _ v u Q I rx ry ⟨rfl, h5⟩
  · exact inn_mini hu I rx ry h1 h2 h3 h5
  · obtain ⟨t, h7, rfl⟩ := Option.map_eq_some_iff.mp h3
    exact nin_mini hu I rx ry h1 h2 h7 h5
  · cases h3

/-! ### subscripts -/
theorem Reps.atI {K : PySem.W.Frag} {W : Addr → Prop} {H : Hp} {ds : List Dt} {xs : List V} {i : Int} {d : Dt} (r : Reps K W H ds xs) (h : ixD ds i = some d) : ∃ x, L2.atI xs i = some x ∧ Rep K W H d x := by
  unfold ixD L2.atI at h
  obtain ⟨j, h1, h2⟩ := Option.bind_eq_some_iff.mp h
  obtain ⟨x, h3, h4⟩ := r.get h2
  refine ⟨x, ?_, h4⟩
  unfold L2.atI
  rw [← r.length, h1]
  exact h3
theorem RepKv.len {K : PySem.W.Frag} {W : Addr → Prop} {H : Hp} : ∀ {es : List (Dt × Dt)} {kvs : List (Key × V)}, RepKv K W H es kvs → es.length = kvs.length
  | [], _, r => by rw [show _ = _ from r]; rfl
  | (kd, d) :: es, _, ⟨j, v, q, e, e1, r, rs⟩ => by subst e; simp [RepKv.len rs]
theorem RepKv.getK {K : PySem.W.Frag} {W : Addr → Prop} {H : Hp} : ∀ {es : List (Dt × Dt)} {kvs : List (Key × V)} {i : Nat} {k : Key} {v : V}, RepKv K W H es kvs → kvs[i]? = some (k, v) → ∃ p : Dt × Dt, es[i]? = some p ∧ p.1 = keyD k ∧ Rep K W H p.2 v
  | [], _, _, _, _, r, h => by rw [show _ = _ from r] at h; simp at h
  | (kd, d) :: es, _, 0, _, _, ⟨j, v, q, e, e1, r, rs⟩, h => by subst e; simp at h; obtain ⟨rfl, rfl⟩ := h; exact ⟨(kd, d), rfl, e1, r⟩
  | (kd, d) :: es, _, i + 1, _, _, ⟨j, v, q, e, e1, r, rs⟩, h => by
    subst e
    obtain ⟨p, h1, h2⟩ := RepKv.getK (i := i) rs (by simpa using h)
    exact ⟨p, by simpa using h1, h2⟩
theorem ix_dict : IxR X (fun x y H Q => ∃ a v, x = .ref a ∧ DGet H a y (some v) ∧ X.A.units + 1 < cLine ∧ Q v H) := by
  intro value slice pins s σ H x y v u Q I rx ry h hs
  obtain ⟨a, z, rfl, g, hu, q⟩ := h
  cases rx
  refine tail_any (dict_typeIs I g) PySem.F.slot_dict_getitem.lookup ?_ hs
  exact d_getItem hu I g ry fun w' s3 I3 rw' => ⟨z, H, I3, rw', q⟩
abbrev idxS : Dt → Dt → Option Sl := fun d e => (idxD d e).map fun z => (.sh, z)
theorem ix_mini (hu : X.A.units + 1 < cLine) : IxR X (rMk X.K idxS) := by
  intro value slice pins s σ H x y v u Q I rx ry h hs
  obtain ⟨W, d, e, z, h1, h2, h3, h4⟩ := h
  obtain ⟨b, h6, e6⟩ := Option.map_eq_some_iff.mp h3
  subst e6
  clear h3
  have h3 := h6
  unfold idxD at h3
  split at h3
  · obtain ⟨a, xs, rfl, r1, q1⟩ := h1
    cases (show y = _ from h2)
    obtain ⟨c, hc, rc⟩ := q1.atI h3
    exact ix_list value slice pins s σ H _ _ v u Q I rx ry ⟨_, _, _, _, rfl, rfl, SqL.of r1, hc, h4 _ _ (.old rc)⟩ hs
  · have h1' : Rep X.K W H _ x := h1
    obtain ⟨a, xs, rfl, r1, q1⟩ := h1'.tup
    cases (show y = _ from h2)
    obtain ⟨c, hc, rc⟩ := q1.atI h3
    exact ix_tup value slice pins s σ H _ _ v u Q I rx ry ⟨_, _, _, _, rfl, rfl, r1, hc, h4 _ _ (.old rc)⟩ hs
  · obtain ⟨a, kvs, rfl, r1, q1⟩ := h1
    split at h3
    · rename_i hk
      obtain ⟨k, rfl⟩ := keyOf hk
      rcases q1.get (k := k) with ⟨n1, _⟩ | ⟨d', v', n1, n2, rr⟩
      · rw [n1] at h3; cases h3
      · rw [n1] at h3
        cases h3
        rw [isKey_V h2] at ry
        exact ix_dict value slice pins s σ H _ _ v u Q I rx ry ⟨_, _, rfl, by rw [← n2]; exact .inl ⟨_, _, r1, rfl, rfl⟩, hu, h4 _ _ (.old rr)⟩ hs
    · cases h3
  · cases h3

/-! ### cuts -/
theorem Reps.cut {K : PySem.W.Frag} {W : Addr → Prop} {H : Hp} {ds : List Dt} {xs : List V} (lo hi : Option Int) (r : Reps K W H ds xs) : Reps K W H (cutD ds lo hi) (L2.cutV xs lo hi) := by
  unfold cutD L2.cutV
  rw [r.length]
  exact (r.drop _).take _
theorem cut_whole {ds : List Dt} {lo hi : Option Int} (h : HT.sIx ds.length 0 lo = 0 ∧ HT.sIx ds.length ds.length hi = ds.length) : cutD ds lo hi = ds := by
  unfold cutD
  rw [h.1, h.2]
  simp
theorem sl_mini : SlR X (fun x lo hi H Q => ∃ W d z, RdW X.K W H d x ∧ sliceD lo hi d = some z ∧ ∀ v H', NewV X.K W H z v H' → Q v H') := by
  intro pins s σ H x v vl vu lo hi sl Q I rx hs pl pu h
  obtain ⟨W, d, z, h1, h3, h4⟩ := h
  unfold sliceD at h3
  split at h3
  · obtain ⟨a, xs, rfl, r1, q1⟩ := h1
    cases h3
    exact sl_list pins s σ H _ v vl vu lo hi sl Q I rx hs pl pu ⟨_, _, rfl, SqL.of r1, fun p np => h4 _ _ (.lst np (q1.cut lo hi))⟩
  · have h1' : Rep X.K W H _ x := h1
    obtain ⟨a, xs, rfl, r1, q1⟩ := h1'.tup
    cases h3
    refine sl_tupA pins s σ H _ v vl vu lo hi sl Q I rx hs pl pu ⟨_, _, rfl, r1, fun hw => ?_, fun _ p np => h4 _ _ (.tup np (q1.cut lo hi))⟩
    rw [← q1.length] at hw
    rw [cut_whole hw] at h4
    exact h4 _ _ (.old h1')
  · cases h3
def tRev1 (K : PySem.W.Frag) (te : TE) : TE := fun σ H Q => te σ H fun x H1 => ∃ W d z, RdW K W H1 d x ∧ revD d = some z ∧ ∀ v H', NewV K W H1 z v H' → Q v H'
theorem pe_rev1 {e : Expr} {te : TE} {k : Nat} {p1 p2 p3 pos : Pos} (he : PE X e te) : PE X (.Subscript e (.Slice none none (some (.UnaryOp .USub (.Constant (.int 1) k p1) p2)) p3) pos) (tRev1 X.K te) := by
  refine ⟨fun pins s σ H Q I h => ?_⟩
  refine Subscript_ (thn (he.run pins s σ H _ I h) fun v s1 ⟨x, H1, I1, r1, q1⟩ => ?_)
  obtain ⟨W, d, z, h1, h3, h4⟩ := q1
  have hst : PO X (some (.UnaryOp .USub (.Constant (.int 1) k p1) p2)) (tPart (tUn (rU fun i => .int (-i)) (tC (.int 1)))) := po_some (pe_un un_neg pe_int)
  refine wpAny_Slice (thn (po_none.run pins s1 σ H1 (fun o H2 => o = none ∧ H2 = H1) I1 ⟨rfl, rfl⟩) fun vl s2 ⟨l, H2, I2, pl, el, e2⟩ => ?_)
  subst el e2
  refine thn (po_none.run pins s2 σ H2 (fun o H3 => o = none ∧ H3 = H2) I2 ⟨rfl, rfl⟩) fun vu s3 ⟨u, H3, I3, pu, eu, e3⟩ => ?_
  subst eu e3
  refine thn (hst.run pins s3 σ H3 (fun o H4 => o = some (-1) ∧ H4 = H3) I3 ⟨1, rfl, -1, rfl, rfl, rfl⟩) fun vs s4 ⟨o, H4, I4, ps, eo, e4⟩ => ?_
  subst eo e4
  have I5 : Inv X pins σ H4 { s4 with heap := s4.heap.push { cls := .type "slice", data := .fields #[vl, vu, vs] } } := I4.kept (t' := s4.toks) fun b ob q => Heap.get?_push_of_some _ q
  unfold revD at h3
  split at h3
  · obtain ⟨a, xs, rfl, hx, q1⟩ := h1
    cases h3
    cases r1
    obtain ⟨its, r, ht, hz⟩ := I5.list (SqL.of hx)
    have hlen := r.length
    refine tail_any (ops := [.ref a, .ref s4.heap.objs.size]) ht.isList.typeIs (PySem.slot_list_getitem.lookup) ?_ (by with_unfolding_all rfl)
    refine wpAny_getItem_list_slice ht.isList (Heap.IsSliceOf.new _ vl vu vs) pl pu ps (by decide) ?_ (by rw [List.size_toArray]; omega)
    rw [PySem.W.krv_pick]
    refine ⟨.ref _, _, I5.laid (t' := s4.toks) (o := .lst xs.reverse) (fun b ob q => Heap.get?_push_of_some _ q) (Nat.le_refl _) ?_, rfl, h4 _ _ (.lst (I5.hok.fresh (Nat.le_refl _)) q1.reverse)⟩
    exact ⟨by rw [List.length_reverse]; exact hz, _, 0, r.reverse, Heap.get?_push_size _ rfl⟩
  · have h1' : Rep X.K W H4 _ x := h1
    obtain ⟨a, xs, rfl, hx, q1⟩ := h1'.tup
    cases h3
    cases r1
    obtain ⟨its, r, ht, hz⟩ := I5.tuple hx
    have hlen := r.length
    refine tail_any (ops := [.ref a, .ref s4.heap.objs.size]) ht.typeIs (PyProof.Rows.slot_tuple_getitem.lookup) ?_ (by with_unfolding_all rfl)
    refine getItem_tuple_rev ht (Heap.IsSliceOf.new _ vl vu vs) pl pu ps ?_ (by rw [List.size_toArray]; omega)
    have e1 : its.toArray.toList.reverse = its.reverse := by simp
    rw [e1]
    refine ⟨.ref _, _, I5.laid (t' := s4.toks) (o := .tup xs.reverse) (fun b ob q => Heap.get?_push_of_some _ q) (Nat.le_refl _) ?_, rfl, h4 _ _ (.tup (I5.hok.fresh (Nat.le_refl _)) q1.reverse)⟩
    exact ⟨by rw [List.length_reverse]; exact hz, _, r.reverse, IsTup.new _ _⟩
  · cases h3
end
end Mini

end
section
set_option Elab.async false
set_option linter.all false
set_option maxRecDepth 100000
set_option maxHeartbeats 4000000
/-! Mini, part 5s: sorted, min, any, all over data. -/
namespace Mini
open PySem PySem.Spec PyProof.Rows L2
section
variable {X : Cx} {pins : List (Addr × Obj)} {σ : L2.St} {H : Hp} {s : Shared} {Q : VK}
theorem readsAll_of (I : L2.Inv X pins σ H s) {W : Addr → Prop} : ∀ {ds : List Dt} {xs : List V} {us : List Value}, (∀ d ∈ ds, flat d = true) → Reps X.K W H ds xs → Vals xs us → ∃ as, ReadsAll s.heap us ds as
  | [], _, us, _, r, v => by
    rw [show _ = _ from r] at v
    cases v
    exact ⟨_, .nil⟩
  | d :: ds, _, _, f, ⟨x, xs, e, r, rs⟩, v => by
    subst e
    cases v with
    | cons rv vs =>
      obtain ⟨as, h1⟩ := Dp.reads I d x _ (Rep.dp (noDict_flat (f d (List.mem_cons_self ..))) r) rv
      obtain ⟨bs, h2⟩ := readsAll_of I (fun d hd => f d (List.mem_cons_of_mem _ hd)) rs vs
      exact ⟨_, .cons h1 h2⟩
theorem each_vals : ∀ {xs : List V} {us : List Value} {ds : List Dt}, Vals xs us → ds.length = xs.length → PySem.W.EachIs (fun v (p : V × Dt) => RelV p.1 v) us (xs.zip ds)
  | _, _, [], .nil, _ => .nil
  | _, _, [], .cons _ _, h => by cases h
  | _, _, _ :: _, .nil, h => by cases h
  | _, _, d :: ds, .cons r rs, h => .cons r (each_vals rs (by simpa using h))
theorem each_reads (I : L2.Inv X pins σ H s) {W : Addr → Prop} : ∀ {ds : List Dt} {xs : List V} {us : List Value}, (∀ d ∈ ds, flat d = true) → Reps X.K W H ds xs → Vals xs us → PySem.W.EachIs (fun v (p : V × Dt) => ∃ as, Reads s.heap v p.2 as) us (xs.zip ds)
  | [], _, us, _, r, v => by
    rw [show _ = _ from r] at v
    cases v
    rw [show _ = _ from r]
    exact .nil
  | d :: ds, _, _, f, ⟨x, xs, e, r, rs⟩, v => by
    subst e
    cases v with
    | cons rv vs =>
      obtain ⟨as, h1⟩ := Dp.reads I d x _ (Rep.dp (noDict_flat (f d (List.mem_cons_self ..))) r) rv
      exact .cons ⟨as, h1⟩ (each_reads I (fun d hd => f d (List.mem_cons_of_mem _ hd)) rs vs)
theorem vals_each : ∀ {ps : List (V × Dt)} {us : List Value}, PySem.W.EachIs (fun v (p : V × Dt) => RelV p.1 v) us ps → Vals (ps.map (·.1)) us
  | _, _, .nil => .nil
  | _, _, .cons r rs => .cons r (vals_each rs)
theorem reps_zip {W : Addr → Prop} : ∀ {ds : List Dt} {xs : List V}, Reps X.K W H ds xs → ∀ p ∈ xs.zip ds, Rep X.K W H p.2 p.1
  | [], _, r, p, hp => by rw [show _ = _ from r] at hp; simp at hp
  | d :: ds, _, ⟨x, xs, e, r, rs⟩, p, hp => by
    subst e
    rcases List.mem_cons.mp hp with rfl | hp
    · exact r
    · exact reps_zip rs p hp
theorem zip_reps {W : Addr → Prop} : ∀ {ps : List (V × Dt)}, (∀ p ∈ ps, Rep X.K W H p.2 p.1) → Reps X.K W H (ps.map (·.2)) (ps.map (·.1))
  | [], _ => rfl
  | p :: ps, h => ⟨p.1, _, rfl, h p (List.mem_cons_self ..), zip_reps fun q hq => h q (List.mem_cons_of_mem _ hq)⟩
/-- sorted(xs), its items PySem.W.alike data -/
theorem sorted_data_ (hu : X.A.units + 70 < cLine) {W : Addr → Prop} {a : Addr} {ds : List Dt} {xs : List V} (I : L2.Inv X pins σ H s) (hl : SqL X.K H a xs) (q : Reps X.K W H ds xs) (ok : sortOk ds = true)
    (h : ∀ p ys, H p = none → Reps X.K W H (ds.mergeSort leD) ys → Q (.ref p) (upd H p (.lst ys))) : wpAny (model X.prog X.w) X.A (call (.builtin "sorted") [.ref a]) (EP X pins σ Q) X.xe s := by
  unfold sortOk at ok
  rw [Bool.and_eq_true, Bool.and_eq_true] at ok
  obtain ⟨⟨ok1, ok2⟩, ok3⟩ := ok
  have fl : ∀ d ∈ ds, flat d = true := fun d hd => List.all_eq_true.mp ok3 d hd
  have hlen := q.length
  obtain ⟨its, rv, pl, hz⟩ := I.list hl
  have e1 : (xs.zip ds).map (·.2) = ds := List.map_snd_zip (by omega)
  have e0 : (xs.zip ds).map (·.1) = xs := List.map_fst_zip (by omega)
  have hal : PySem.W.AllAlike ((xs.zip ds).map (·.2)) := by
    rw [e1]
    intro d hd d' hd'
    exact List.all_eq_true.mp (List.all_eq_true.mp ok1 d hd) d' hd'
  have hk : PySem.W.Sortable ((xs.zip ds).map (·.2)) := by
    rw [e1]
    rw [Bool.or_eq_true] at ok2
    rcases ok2 with k | k
    · refine .inl fun d hd => ?_
      have := List.all_eq_true.mp k d hd
      cases d with
      | tuple ys => cases ys with
        | nil => cases this
        | cons y ys => exact ⟨_, _, rfl⟩
      | _ => cases this
    · refine .inr fun d hd => ?_
      have := List.all_eq_true.mp k d hd
      cases d <;> first | (cases this; done) | exact ⟨by simp, by simp⟩
  refine PySem.W.sorted_data (R := fun v (p : V × Dt) => RelV p.1 v) (enc := fun p : V × Dt => p.2) (vs := its) (bs := xs.zip ds) pl.isList (each_vals rv hlen) (each_reads I fl q rv) hal hk (by rw [List.length_zip]; omega) (fun p hp => ?_) fun out ho hout => ?_
  · have := SeqAt.depth_of_shaped (fl p.2 (by rw [← e1]; exact List.mem_map.mpr ⟨p, hp, rfl⟩))
    omega
  · have e2 : ((xs.zip ds).mergeSort (PySem.W.dataLe false fun p : V × Dt => p.2)).map (·.2) = ds.mergeSort leD := by
      conv => rhs; rw [← e1]
      exact List.map_mergeSort (f := fun p : V × Dt => p.2) (s := leD) fun a _ b _ => rfl
    have hm : ∀ p ∈ (xs.zip ds).mergeSort (PySem.W.dataLe false fun p : V × Dt => p.2), Rep X.K W H p.2 p.1 := fun p hp => reps_zip q p (List.mem_mergeSort.mp hp)
    have rr := zip_reps hm
    rw [e2] at rr
    obtain ⟨n, hn⟩ := sortedAll_at s.heap its out.toArray
    refine ⟨.ref (s.heap.objs.size + 1), upd H (s.heap.objs.size + 1) (.lst (((xs.zip ds).mergeSort (PySem.W.dataLe false fun p : V × Dt => p.2)).map (·.1))), I.laid (t' := s.toks) (fun b o e => sortedAll_old e) (Nat.le_succ _) ⟨?_, out, n, vals_each hout, hn⟩, rfl, h _ _ (I.hok.fresh (Nat.le_succ _)) rr⟩
    rw [List.length_map, List.length_mergeSort, List.length_zip]
    omega
/-- min(xs), its items PySem.W.alike data -/
theorem min_data_ (hc : X.calm = true) (hu : X.A.units + 70 < cLine) {W : Addr → Prop} {a : Addr} {d : Dt} {ds : List Dt} {xs : List V} (I : L2.Inv X pins σ H s) (hl : SqL X.K H a xs) (q : Reps X.K W H (d :: ds) xs) (ok : minOk (d :: ds) = true)
    (h : ∀ v, Rep X.K W H (PySem.W.minD d ds) v → Q v H) : wpAny (model X.prog X.w) X.A (call (.builtin "min") [.ref a]) (EP X pins σ Q) X.xe s := by
  unfold minOk at ok
  rw [Bool.and_eq_true, Bool.and_eq_true] at ok
  obtain ⟨⟨ok1, ok2⟩, ok3⟩ := ok
  have fl : ∀ e ∈ d :: ds, flat e = true := fun e he => List.all_eq_true.mp ok3 e he
  have hlen := q.length
  obtain ⟨its, rv, pl, hz⟩ := I.list hl
  obtain ⟨as, hr⟩ := readsAll_of I fl q rv
  have hal : PySem.W.AlikeAll (d :: ds) := by
    refine ⟨fun x hx y hy => List.all_eq_true.mp (List.all_eq_true.mp ok1 x hx) y hy, fun x hx => ?_⟩
    have := List.all_eq_true.mp ok2 x hx
    cases x <;> first | (cases this; done) | simp
  have hdep : PyData.depthAll (d :: ds) ≤ 64 := by
    have : ∀ l : List Dt, (∀ e ∈ l, flat e = true) → PyData.depthAll l ≤ 64 := fun l => by
      induction l with
      | nil => intro _; simp [PyData.depthAll]
      | cons e l ih =>
        intro hf
        have h1 := SeqAt.depth_of_shaped (hf e (List.mem_cons_self ..))
        have h2 := ih fun e he => hf e (List.mem_cons_of_mem _ he)
        simp only [PyData.depthAll]
        omega
    exact this _ fl
  refine PySem.W.min_list_data (vs := its.toArray) (I.ok.hd hc) pl.isList hr hal (by omega) fun i v h' tk bs hv rd hk => ?_
  obtain ⟨x, hx, rx⟩ : ∃ x, xs[i]? = some x ∧ RelV x v := by
    have hv' : its[i]? = some v := by rw [← List.getElem?_toArray]; exact hv
    have hi : i < xs.length := by
      have := (List.getElem?_eq_some_iff.mp hv').1
      have := rv.length
      omega
    obtain ⟨u, hu1, hu2⟩ := rv.get (List.getElem?_eq_getElem hi)
    rw [hv'] at hu1
    cases hu1
    exact ⟨_, List.getElem?_eq_getElem hi, hu2⟩
  obtain ⟨e, he, re⟩ := q.at_ hx
  have hem : e ∈ d :: ds := List.mem_of_getElem? he
  have hmm : PySem.W.minD d ds ∈ d :: ds := by
    have : ∀ (l : List Dt) (x : Dt), PySem.W.minD x l ∈ x :: l := fun l => by
      induction l with
      | nil => intro x; exact List.mem_cons_self ..
      | cons y l ih =>
        intro x
        have h1 := ih (if PySem.W.dataLt y x = true then y else x)
        have h2 : PySem.W.minD x (y :: l) = PySem.W.minD (if PySem.W.dataLt y x = true then y else x) l := rfl
        rw [h2]
        rcases List.mem_cons.mp h1 with h1 | h1
        · rw [h1]
          split
          · exact List.mem_cons_of_mem _ (List.mem_cons_self ..)
          · exact List.mem_cons_self ..
        · exact List.mem_cons_of_mem _ (List.mem_cons_of_mem _ h1)
    exact this ds d
  have I1 : L2.Inv X pins σ H { s with heap := h', toks := tk } := I.kept hk
  obtain ⟨cs, r2⟩ := Dp.reads I1 e x v (Rep.dp (noDict_flat (fl e hem)) re) rx
  have heq : e = PySem.W.minD d ds := PySem.W.alike_unique e (PySem.W.minD d ds) v cs bs (hal.1 e hem _ hmm) r2 rd
  rw [heq] at re
  exact ⟨x, H, I1, rx, h x re⟩
theorem sum_tup_ (hc : X.calm = true) {a : Addr} {ns : List Int} (I : L2.Inv X pins σ H s) (hl : SqT X.K H a (ns.map V.int)) (h : Q (.int ns.sum) H) :
    wpAny (model X.prog X.w) X.A (call (.builtin "sum") [.ref a]) (EP X pins σ Q) X.xe s := by
  obtain ⟨its, rv, pl, hz⟩ := I.tuple hl
  have hi : IntsAre its ns := rv.ints
  obtain ⟨xs, e⟩ := hi.allInts.items
  have hn : numsOf (intItems xs).toList = ns := by rw [← e]; exact hi.numsOf
  rw [nums_intItems] at hn
  have pl' : s.heap.IsTuple a (intItems xs) := by rw [← e]; exact pl
  refine PySem.W.ktm_sumG (I.ok.hd hc) pl' fun h' tk t' hk => ?_
  rw [preSum_eq, List.take_of_length_le (by simp), hn]
  exact ⟨.int _, H, I.kept hk, ⟨_, rfl⟩, h⟩
theorem truth_ok {ds : List Dt} (h : trOk ds = true) : PyData.plainAll ds = true ∧ ∀ x ∈ ds, x.fits63 := by
  unfold trOk at h
  rw [Bool.and_eq_true] at h
  refine ⟨h.1, fun x hx => ?_⟩
  have := List.all_eq_true.mp h.2 x hx
  have big : (lim : Int) < 2 ^ 63 := by decide
  cases x <;> first | exact trivial | skip
  · have h1 := of_decide_eq_true this
    show (_ : Int) < 2 ^ 63
    unfold lim at *
    omega
  · have h1 := of_decide_eq_true this
    show (_ : Int) < 2 ^ 63
    unfold lim at *
    omega
  · have h1 := of_decide_eq_true this
    show (_ : Int) < 2 ^ 63
    unfold lim at *
    omega
theorem any_list_ (hc : X.calm = true) {W : Addr → Prop} {a : Addr} {ds : List Dt} {xs : List V} (I : L2.Inv X pins σ H s) (hl : SqL X.K H a xs) (q : Reps X.K W H ds xs) (fl : ∀ d ∈ ds, flat d = true) (ok : trOk ds = true)
    (h : Q (.bl (ds.any PyData.truthy)) H) : wpAny (model X.prog X.w) X.A (call (.builtin "any") [.ref a]) (EP X pins σ Q) X.xe s := by
  obtain ⟨its, rv, pl, hz⟩ := I.list hl
  obtain ⟨as, hr⟩ := readsAll_of I fl q rv
  obtain ⟨k1, k2⟩ := truth_ok ok
  exact PySem.W.any_list_data (vs := its.toArray) (I.ok.hd hc) pl.isList hr k1 k2 fun h' tk hk => ⟨.bl _, H, I.kept hk, rfl, h⟩
theorem all_list_ (hc : X.calm = true) {W : Addr → Prop} {a : Addr} {ds : List Dt} {xs : List V} (I : L2.Inv X pins σ H s) (hl : SqL X.K H a xs) (q : Reps X.K W H ds xs) (fl : ∀ d ∈ ds, flat d = true) (ok : trOk ds = true)
    (h : Q (.bl (ds.all PyData.truthy)) H) : wpAny (model X.prog X.w) X.A (call (.builtin "all") [.ref a]) (EP X pins σ Q) X.xe s := by
  obtain ⟨its, rv, pl, hz⟩ := I.list hl
  obtain ⟨as, hr⟩ := readsAll_of I fl q rv
  obtain ⟨k1, k2⟩ := truth_ok ok
  exact PySem.W.all_list_data (vs := its.toArray) (I.ok.hd hc) pl.isList hr k1 k2 fun h' tk hk => ⟨.bl _, H, I.kept hk, rfl, h⟩
theorem any_tup_ (hc : X.calm = true) {W : Addr → Prop} {a : Addr} {ds : List Dt} {xs : List V} (I : L2.Inv X pins σ H s) (hl : SqT X.K H a xs) (q : Reps X.K W H ds xs) (fl : ∀ d ∈ ds, flat d = true) (ok : trOk ds = true)
    (h : Q (.bl (ds.any PyData.truthy)) H) : wpAny (model X.prog X.w) X.A (call (.builtin "any") [.ref a]) (EP X pins σ Q) X.xe s := by
  obtain ⟨its, rv, pl, hz⟩ := I.tuple hl
  obtain ⟨as, hr⟩ := readsAll_of I fl q rv
  obtain ⟨k1, k2⟩ := truth_ok ok
  exact PySem.W.any_tuple_data (vs := its.toArray) (I.ok.hd hc) pl hr k1 k2 fun h' tk hk => ⟨.bl _, H, I.kept hk, rfl, h⟩
theorem all_tup_ (hc : X.calm = true) {W : Addr → Prop} {a : Addr} {ds : List Dt} {xs : List V} (I : L2.Inv X pins σ H s) (hl : SqT X.K H a xs) (q : Reps X.K W H ds xs) (fl : ∀ d ∈ ds, flat d = true) (ok : trOk ds = true)
    (h : Q (.bl (ds.all PyData.truthy)) H) : wpAny (model X.prog X.w) X.A (call (.builtin "all") [.ref a]) (EP X pins σ Q) X.xe s := by
  obtain ⟨its, rv, pl, hz⟩ := I.tuple hl
  obtain ⟨as, hr⟩ := readsAll_of I fl q rv
  obtain ⟨k1, k2⟩ := truth_ok ok
  exact PySem.W.all_tuple_data (vs := its.toArray) (I.ok.hd hc) pl hr k1 k2 fun h' tk hk => ⟨.bl _, H, I.kept hk, rfl, h⟩
end
end Mini

end
section
set_option Elab.async false
set_option linter.all false
set_option maxRecDepth 100000
set_option maxHeartbeats 4000000
/-! Mini, part 6: built-in functions by values. -/
namespace Mini
open PySem PySem.Spec PyProof.Rows L2
theorem insI_perm (x : Int) : ∀ l : List Int, (insI x l).Perm (x :: l)
  | [] => List.Perm.refl _
  | y :: ys => by
    unfold insI
    split
    · exact List.Perm.refl _
    · exact ((insI_perm x ys).cons y).trans (List.Perm.swap x y ys)
theorem sortI_perm : ∀ l : List Int, (sortI l).Perm l
  | [] => List.Perm.refl _
  | x :: xs => (insI_perm x (sortI xs)).trans ((sortI_perm xs).cons x)
theorem insI_sorted (x : Int) : ∀ l : List Int, l.Pairwise (· ≤ ·) → (insI x l).Pairwise (· ≤ ·)
  | [], _ => List.pairwise_singleton _ _
  | y :: ys, h => by
    obtain ⟨h1, h2⟩ := List.pairwise_cons.mp h
    unfold insI
    split
    · rename_i hxy
      refine List.pairwise_cons.mpr ⟨fun z hz => ?_, h⟩
      rcases List.mem_cons.mp hz with rfl | hz
      · exact hxy
      · exact Int.le_trans hxy (h1 z hz)
    · rename_i hxy
      refine List.pairwise_cons.mpr ⟨fun z hz => ?_, insI_sorted x ys h2⟩
      rcases List.mem_cons.mp ((insI_perm x ys).mem_iff.mp hz) with rfl | hz
      · omega
      · exact h1 z hz
theorem sortI_sorted : ∀ l : List Int, (sortI l).Pairwise (· ≤ ·)
  | [] => List.Pairwise.nil
  | x :: xs => insI_sorted x _ (sortI_sorted xs)
theorem sorted_uniq : ∀ {l m : List Int}, l.Perm m → l.Pairwise (· ≤ ·) → m.Pairwise (· ≤ ·) → l = m
  | [], m, h, _, _ => (List.Perm.eq_nil h.symm).symm
  | x :: l, [], h, _, _ => absurd h.length_eq (by simp)
  | x :: l, y :: m, h, h1, h2 => by
    obtain ⟨a1, a2⟩ := List.pairwise_cons.mp h1
    obtain ⟨b1, b2⟩ := List.pairwise_cons.mp h2
    have e1 : x ≤ y := by
      rcases List.mem_cons.mp (h.mem_iff.mpr (List.mem_cons_self (a := y) (l := m))) with e | e
      · omega
      · exact a1 y e
    have e2 : y ≤ x := by
      rcases List.mem_cons.mp (h.mem_iff.mp (List.mem_cons_self (a := x) (l := l))) with e | e
      · omega
      · exact b1 x e
    have e : x = y := by omega
    subst e
    rw [sorted_uniq h.cons_inv a2 b2]
theorem sortI_of {l m : List Int} (h : l.Perm m) (s : l.Pairwise (· ≤ ·)) : l = sortI m := sorted_uniq (h.trans (sortI_perm m).symm) s (sortI_sorted m)
theorem Reps.ofInts {K : PySem.W.Frag} {W : Addr → Prop} {H : Hp} : ∀ ns : List Int, Reps K W H (ns.map .int) (ns.map V.int)
  | [] => rfl
  | n :: ns => .cons rfl (Reps.ofInts ns)
theorem foldl_max (f : Int → Int → Int) (hf : ∀ a b, f a b = max a b) : ∀ (ns : List Int) (n : Int), (∀ y ∈ ns, y ≤ ns.foldl f n) ∧ n ≤ ns.foldl f n ∧ (ns.foldl f n = n ∨ ns.foldl f n ∈ ns)
  | [], n => ⟨fun _ h => (by cases h), Int.le_refl _, .inl rfl⟩
  | m :: ns, n => by
    obtain ⟨h1, h2, h3⟩ := foldl_max f hf ns (f n m)
    have e := hf n m
    rw [List.foldl_cons]
    refine ⟨fun y hy => ?_, by omega, ?_⟩
    · rcases List.mem_cons.mp hy with rfl | hy
      · omega
      · exact h1 y hy
    · rcases h3 with h3 | h3
      · rw [h3]
        rcases Int.le_total n m with q | q
        · exact .inr (by rw [show f n m = m by omega]; exact List.mem_cons_self ..)
        · exact .inl (by omega)
      · exact .inr (List.mem_cons_of_mem _ h3)
theorem foldl_min (f : Int → Int → Int) (hf : ∀ a b, f a b = min a b) : ∀ (ns : List Int) (n : Int), (∀ y ∈ ns, ns.foldl f n ≤ y) ∧ ns.foldl f n ≤ n ∧ (ns.foldl f n = n ∨ ns.foldl f n ∈ ns)
  | [], n => ⟨fun _ h => (by cases h), Int.le_refl _, .inl rfl⟩
  | m :: ns, n => by
    obtain ⟨h1, h2, h3⟩ := foldl_min f hf ns (f n m)
    have e := hf n m
    rw [List.foldl_cons]
    refine ⟨fun y hy => ?_, by omega, ?_⟩
    · rcases List.mem_cons.mp hy with rfl | hy
      · omega
      · exact h1 y hy
    · rcases h3 with h3 | h3
      · rw [h3]
        rcases Int.le_total n m with q | q
        · exact .inl (by omega)
        · exact .inr (by rw [show f n m = m by omega]; exact List.mem_cons_self ..)
      · exact .inr (List.mem_cons_of_mem _ h3)
section
variable {X : Cx}
/-- sum of a tuple of ints: the built-in draws from any sequence -/
theorem repr_mini (hg : X.A.guards = some []) (hu : X.A.units + 70 < cLine) : CallR X (.builtin "repr") (rMk1 X.K (b1D .repr)) := by
  intro pins s σ H xs us Q I r h
  obtain ⟨W, d, z, x, rfl, h1, h2, h3⟩ := h
  obtain ⟨u, rfl, rx⟩ := vals1 r
  have h2' : (if shows d = true then some ((Fl.sh, PyData.str d.shown) : Sl) else none) = some z := by
    rw [← h2]
    cases d <;> rfl
  split at h2' <;> cases h2'
  rename_i hs
  unfold shows at hs
  simp only [Bool.and_eq_true, decide_eq_true_eq] at hs
  obtain ⟨⟨⟨k1, k2⟩, k3⟩, k4⟩ := hs
  have hlen : d.shown.length ≤ sizeLine := by
    have := PyData.shown_le_bulk 100 (by decide) d k3
    rw [sizeLine_eq]
    omega
  have fin : ∀ (h' : Heap) (tk tk2 : Nat), (∀ b o, s.heap.get? b = some o → h'.get? b = some o) → EP X pins σ Q (.str d.shown tk) { s with heap := h', toks := tk2 } := fun h' tk tk2 hk =>
    ⟨.str d.shown, H, I.kept hk, ⟨_, rfl⟩, h3 _ _ (.old rfl)⟩
  have hdict : d.hasDict = false := PyData.hasDict_of_canLay d (SeqAt.canLay_of_shaped k1)
  cases d with
  | none =>
    cases (show x = _ from h1)
    cases rx
    exact PySem.P.repr_of_none (fin _ _ _ fun _ _ e => e)
  | bool b =>
    cases (show x = _ from h1)
    cases rx
    exact PySem.P.repr_of_bool (fin _ _ _ fun _ _ e => e)
  | int i =>
    cases (show x = _ from h1)
    obtain ⟨t, rfl⟩ := rx
    exact PySem.P.repr_of_int (by simpa [PyData.showable] using k2) (fin _ _ _ fun _ _ e => e)
  | str y =>
    cases (show x = _ from h1)
    obtain ⟨t, rfl⟩ := rx
    exact PySem.P.repr_of_str (fin _ _ _ fun _ _ e => e) hlen
  | list ds =>
    obtain ⟨as, rr⟩ := Dp.reads I _ _ _ (h1.dp (noDict_flat k1)) rx
    obtain ⟨a, xs, rfl, _⟩ := h1
    cases rx
    exact repr_of_reads' rr k2 (fun q => by rw [hdict] at q; cases q) hg (by have := SeqAt.depth_of_shaped k1; omega) (fun _ _ e => e) (fun h' u tk hk => fin h' u tk hk) hlen
  | tuple ds =>
    obtain ⟨as, rr⟩ := Dp.reads I _ _ _ (h1.dp (noDict_flat k1)) rx
    obtain ⟨a, xs, rfl, _⟩ := h1
    cases rx
    exact repr_of_reads' rr k2 (fun q => by rw [hdict] at q; cases q) hg (by have := SeqAt.depth_of_shaped k1; omega) (fun _ _ e => e) (fun h' u tk hk => fin h' u tk hk) hlen
  | dict es => simp [flat, SeqAt.shaped, PyData.canLay0] at k1
theorem mapI {α : Type} {f : List Int → α} {ds : List Dt} {z : α} (h : (allI ds).map f = some z) : ∃ ns, allI ds = some ns ∧ f ns = z := Option.map_eq_some_iff.mp h
/-- sorted(d) of a dict whose keys are ints -/
theorem sorted_keys (hc : X.calm = true) {pins : List (Addr × Obj)} {σ : L2.St} {H : Hp} {s : Shared} {a : Addr} {kvs : List (Key × V)} {ns : List Int} {Q : VK} (I : L2.Inv X pins σ H s) (hd : Rd H a (.dK kvs)) (hk : kvs.map (·.1) = ns.map Sum.inl)
    (h : ∀ p, H p = none → Q (.ref p) (upd H p (.lst ((sortI ns).map V.int)))) : wpAny (model X.prog X.w) X.A (call (.builtin "sorted") [.ref a]) (EP X pins σ Q) X.xe s := by
  obtain ⟨z, lo, vs, rel, dd⟩ := dk_rd I.hok hd
  obtain ⟨ep, hat⟩ := dd.dictAt
  have hkeys : vs.map (·.1) = ns.map Sum.inl := rel.keys.symm.trans hk
  have hl : vs.length = ns.length := by simpa using congrArg List.length hkeys
  have hlen : vs.length ≤ sizeLine := by
    have e : kvs.length = vs.length := by simpa using congrArg List.length rel.keys
    omega
  refine Calls.call_function_entry PyProof.Rows.kind_sorted PyProof.Rows.plain_sorted PyProof.Rows.entry_sorted (PyProof.Rows.args_sorted1 _) ?_
  unfold Builtin.«sorted»
  refine wpAny_bind (m := checkCount "sorted" 1 1 _) (wpAny_pure ?_)
  refine wpAny_bind (PySem.W.kdu_collect (A := X.A.in1) (PySem.W.kdl_dict (knd := mixKind X.prog X.w) (kvs := vs) (ep := ep) lo) (I.ok.hd hc) hat hlen fun h' tk acc hk' hacc => ?_)
  have hal : acc.toList.length = ns.length := by rw [Array.length_toList, hacc.1, hl]
  have hS : IntsAre acc.toList ns := by
    have r := keys_at (us := acc.toList) (vs := vs) (by rw [hal, hl]) fun j v e => hacc.2 j v (by rw [← Array.getElem?_toList]; exact e)
    have e1 : (vs.map fun p => kV p.1) = ns.map V.int := by
      have : (vs.map fun p => kV p.1) = (vs.map (·.1)).map kV := by rw [List.map_map]; rfl
      rw [this, hkeys, List.map_map]
      rfl
    rw [e1] at r
    exact r.ints
  have I1 : L2.Inv X pins σ H { s with heap := h', toks := tk } := I.kept hk'
  refine wpAny_bind (wpAny_newList ?_ (by omega))
  have hoL : (h'.push (seqObj "list" acc.toList.toArray 0)).get? h'.objs.size = some (seqObj "list" acc.toList.toArray 0) := Heap.get?_push_size _ rfl
  show wpAny _ _ _ _ _ { s with heap := h'.push (seqObj "list" acc.toList.toArray 0), toks := tk }
  refine wpAny_bind (wpAny_holding (wpAny_call_entry PyProof.Rows.slot_list_sort ⟨_, hoL, rfl⟩ PyProof.Rows.entry_list_sort
    (SrtO.list_sort_ord SrtO.swo_int hoL (by omega) (fun h2 => SrtO.ints_sortable hS h2) fun out h1 h2 => ⟨_, rfl, ?_⟩) (PyProof.Rows.args_list_sort _)))
  obtain ⟨k1, k2, k3⟩ := SrtO.ints_out hS h1 h2
  obtain ⟨e', he'⟩ := PyProof.Rows.sortedHeap_at (vs := acc.toList) (out := out.toArray) hoL
  have hsz : ((out.map SrtO.iv).map V.int).length ≤ sizeLine := by
    rw [List.length_map, k2.length_eq]
    omega
  have hs2 : out.map SrtO.iv = sortI ns := sortI_of k2 k3
  refine wpAny_pure ⟨_, rfl, .ref h'.objs.size, upd H h'.objs.size (.lst ((sortI ns).map V.int)), I1.laid (t' := tk) (fun b u e => ?_) (Nat.le_refl _) ?_, rfl, h _ (I1.hok.fresh (Nat.le_refl _))⟩
  · have q : (h'.push (seqObj "list" acc.toList.toArray 0)).get? b = some u := Heap.get?_push_of_some _ e
    have ne : b ≠ h'.objs.size := Nat.ne_of_lt (Heap.lt_size e)
    rw [PyProof.Rows.sortedHeap_old ne (Heap.lt_size q)]
    exact q
  · rw [← hs2]
    exact ⟨hsz, out, _, vals_of_ints k1, he'⟩
def b1F : B1 → Value
  | .len => .builtin "len" | .abs => .builtin "abs" | .tuple => .type "tuple" | .list => .type "list" | .sum => .builtin "sum" | .sorted => .builtin "sorted"
  | .int => .type "int" | .str => .type "str" | .repr => .builtin "repr" | .all => .builtin "all" | .any => .builtin "any" | .max => .builtin "max" | .min => .builtin "min" | .dict => .type "dict"
theorem RepKv.keys {K : PySem.W.Frag} {W : Addr → Prop} {H : Hp} : ∀ {es : List (Dt × Dt)} {kvs : List (Key × V)} {ns : List Int}, RepKv K W H es kvs → allI (es.map (·.1)) = some ns → kvs.map (·.1) = ns.map Sum.inl
  | [], kvs, ns, r, h => by
    rw [show kvs = [] from r]
    have e : some [] = some ns := h
    cases e
    rfl
  | (kd, d) :: es, _, ns, ⟨j, v, q, e, e1, r, rs⟩, h => by
    subst e e1
    cases j with
    | inl i =>
      have h' : ((some i).bind fun a => (allI (es.map (·.1))).bind fun b => some (a :: b)) = some ns := by
        rw [← h]
        unfold allI
        rw [List.map_cons, List.mapM_cons]
        rfl
      simp only [Option.bind_some] at h'
      cases e2 : allI (es.map (·.1)) with
      | none => rw [e2] at h'; cases h'
      | some ms =>
        rw [e2] at h'
        cases h'
        rw [List.map_cons, List.map_cons, RepKv.keys rs e2]
    | inr y => simp [allI, isInt, keyD] at h
theorem b1_mini (hc : X.calm = true) (hg : X.A.guards = some []) (hu : X.A.units + 70 < cLine) (f : B1) : CallR X (b1F f) (rMk1 X.K (b1D f)) := by
  by_cases hf : f = .repr
  · subst hf
    exact repr_mini hg hu
  intro pins s σ H xs us Q I r h
  have h0 := h
  obtain ⟨W, d, z, x, rfl, h1, h2, h3⟩ := h
  obtain ⟨u, rfl, rx⟩ := vals1 r
  unfold b1D at h2
  split at h2
  · obtain ⟨a, xs, rfl, r1, q1⟩ := h1
    cases h2
    refine call_len pins s σ H _ _ Q I r ⟨_, xs.length, rfl, .inl ⟨_, SqL.of r1, rfl⟩, ?_⟩
    rw [← q1.length]
    exact h3 _ _ (.old rfl)
  · have h1' : Rep X.K W H _ x := h1
    obtain ⟨a, xs, rfl, r1, q1⟩ := h1'.tup
    cases h2
    refine call_len pins s σ H _ _ Q I r ⟨_, xs.length, rfl, .inr ⟨_, r1, rfl⟩, ?_⟩
    rw [← q1.length]
    exact h3 _ _ (.old rfl)
  · cases (show x = _ from h1)
    split at h2 <;> cases h2
    exact call_len pins s σ H _ _ Q I r ⟨_, _, rfl, ⟨lim_line (by assumption), rfl⟩, h3 _ _ (.old rfl)⟩
  · cases (show x = _ from h1)
    cases h2
    exact call_abs pins s σ H _ _ Q I r ⟨_, rfl, h3 _ _ (.old rfl)⟩
  · obtain ⟨a, xs, rfl, r1, q1⟩ := h1
    cases h2
    exact call_tuple_of pins s σ H _ _ Q I r ⟨_, _, rfl, .inl ⟨SqL.of r1, fun l hl => h3 _ _ (.tup hl q1)⟩⟩
  · have h1' : Rep X.K W H _ x := h1
    obtain ⟨a, xs, rfl, r1, q1⟩ := h1'.tup
    cases h2
    exact call_tuple_of pins s σ H _ _ Q I r ⟨_, _, rfl, .inr ⟨r1, h3 _ _ (.old h1')⟩⟩
  · obtain ⟨a, xs, rfl, r1, q1⟩ := h1
    cases h2
    exact call_list_of pins s σ H _ _ Q I r ⟨_, _, rfl, .inl (SqL.of r1), fun l hl => h3 _ _ (.lst hl q1)⟩
  · have h1' : Rep X.K W H _ x := h1
    obtain ⟨a, xs, rfl, r1, q1⟩ := h1'.tup
    cases h2
    exact call_list_of pins s σ H _ _ Q I r ⟨_, _, rfl, .inr r1, fun l hl => h3 _ _ (.lst hl q1)⟩
  · obtain ⟨a, xs, rfl, r1, q1⟩ := h1
    obtain ⟨ns, e1, rfl⟩ := mapI h2
    have e2 := q1.ints e1
    subst e2
    exact cr_sum hc pins s σ H _ _ Q I r ⟨_, _, rfl, SqL.of r1, h3 _ _ (.old rfl)⟩
  · have h1' : Rep X.K W H _ x := h1
    obtain ⟨a, xs, rfl, r1, q1⟩ := h1'.tup
    obtain ⟨ns, e1, rfl⟩ := mapI h2
    have e2 := q1.ints e1
    subst e2
    cases rx
    exact sum_tup_ hc I r1 (h3 _ _ (.old rfl))
  · obtain ⟨a, xs, rfl, r1, q1⟩ := h1
    split at h2
    · rename_i n ns e1
      cases h2
      have e2 := q1.ints e1
      subst e2
      obtain ⟨m1, m2, m3⟩ := foldl_max max (fun _ _ => rfl) ns n
      refine cr_max hc pins s σ H _ _ Q I r ⟨_, _, rfl, SqL.of r1, by simp, fun m hm hle => ?_⟩
      have e3 : m = ns.foldl max n := by
        have a1 : ns.foldl max n ≤ m := hle _ (by
          rcases m3 with m3 | m3
          · rw [m3]; exact List.mem_cons_self ..
          · exact List.mem_cons_of_mem _ m3)
        have a2 : m ≤ ns.foldl max n := by
          rcases List.mem_cons.mp hm with rfl | hm
          · exact m2
          · exact m1 m hm
        omega
      rw [e3]
      exact h3 _ _ (.old rfl)
    · cases h2
  · obtain ⟨a, xs, rfl, r1, q1⟩ := h1
    split at h2
    · rename_i n ns e1
      cases h2
      have e2 := q1.ints e1
      subst e2
      obtain ⟨m1, m2, m3⟩ := foldl_min min (fun _ _ => rfl) ns n
      refine cr_min hc pins s σ H _ _ Q I r ⟨_, _, rfl, SqL.of r1, by simp, fun m hm hle => ?_⟩
      have e3 : m = ns.foldl min n := by
        have a1 : m ≤ ns.foldl min n := hle _ (by
          rcases m3 with m3 | m3
          · rw [m3]; exact List.mem_cons_self ..
          · exact List.mem_cons_of_mem _ m3)
        have a2 : ns.foldl min n ≤ m := by
          rcases List.mem_cons.mp hm with rfl | hm
          · exact m2
          · exact m1 m hm
        omega
      rw [e3]
      exact h3 _ _ (.old rfl)
    · split at h2
      · rename_i d ds hne
        split at h2 <;> cases h2
        rename_i ok
        cases rx
        exact min_data_ hc hu I (SqL.of r1) q1 ok fun v rv => h3 _ _ (.old rv)
      · cases h2
  · obtain ⟨a, xs, rfl, r1, q1⟩ := h1
    split at h2 <;> cases h2
    rename_i ok
    obtain ⟨ok1, ok2⟩ := Bool.and_eq_true_iff.mp ok
    cases rx
    exact all_list_ hc I (SqL.of r1) q1 (fun d hd => List.all_eq_true.mp ok2 d hd) ok1 (h3 _ _ (.old rfl))
  · obtain ⟨a, xs, rfl, r1, q1⟩ := h1
    split at h2 <;> cases h2
    rename_i ok
    obtain ⟨ok1, ok2⟩ := Bool.and_eq_true_iff.mp ok
    cases rx
    exact any_list_ hc I (SqL.of r1) q1 (fun d hd => List.all_eq_true.mp ok2 d hd) ok1 (h3 _ _ (.old rfl))
  · have h1' : Rep X.K W H _ x := h1
    obtain ⟨a, xs, rfl, r1, q1⟩ := h1'.tup
    split at h2 <;> cases h2
    rename_i ok
    obtain ⟨ok1, ok2⟩ := Bool.and_eq_true_iff.mp ok
    cases rx
    exact all_tup_ hc I r1 q1 (fun d hd => List.all_eq_true.mp ok2 d hd) ok1 (h3 _ _ (.old rfl))
  · have h1' : Rep X.K W H _ x := h1
    obtain ⟨a, xs, rfl, r1, q1⟩ := h1'.tup
    split at h2 <;> cases h2
    rename_i ok
    obtain ⟨ok1, ok2⟩ := Bool.and_eq_true_iff.mp ok
    cases rx
    exact any_tup_ hc I r1 q1 (fun d hd => List.all_eq_true.mp ok2 d hd) ok1 (h3 _ _ (.old rfl))
  · obtain ⟨a, kvs, rfl, r1, q1⟩ := h1
    cases h2
    exact call_dictD pins s σ H _ _ Q I r ⟨_, _, rfl, r1, fun p hp => h3 _ _ (.dct hp q1)⟩
  · cases (show x = _ from h1)
    cases h2
    exact call_int1 pins s σ H _ _ Q I r (.inl ⟨_, rfl, h3 _ _ (.old rfl)⟩)
  · cases (show x = _ from h1)
    cases h2
    exact call_int1 pins s σ H _ _ Q I r (.inr ⟨_, rfl, h3 _ _ (.old rfl)⟩)
  · obtain ⟨a, xs, rfl, r1, q1⟩ := h1
    split at h2
    · rename_i ns e1
      cases h2
      have e2 := q1.ints e1
      subst e2
      refine cr_sortedI pins s σ H _ _ Q I r ⟨_, _, rfl, SqL.of r1, fun ns' p hp hs hn => ?_⟩
      rw [sortI_of hp hs]
      exact h3 _ _ (.lst hn (Reps.ofInts _))
    · split at h2 <;> cases h2
      rename_i ok
      cases rx
      exact sorted_data_ hu I (SqL.of r1) q1 ok fun p ys hp rr => h3 _ _ (.lst hp rr)
  · obtain ⟨a, kvs, rfl, r1, q1⟩ := h1
    obtain ⟨ns, e1, rfl⟩ := mapI h2
    cases rx
    exact sorted_keys hc I r1 (q1.keys e1) fun p hn => h3 _ _ (.lst hn (Reps.ofInts _))
  · cases (show x = _ from h1)
    split at h2 <;> cases h2
    exact call_str_int pins s σ H _ _ Q I r ⟨_, rfl, by assumption, h3 _ _ (.old rfl)⟩
  · exact absurd rfl hf
  · cases h2
def b2F : B2 → Value
  | .max => .builtin "max" | .min => .builtin "min"
theorem b2_mini (hc : X.calm = true) (f : B2) : CallR X (b2F f) (rMk2 X.K (b2D f)) := by
  intro pins s σ H xs us Q I r h
  obtain ⟨W, d, e, z, x, y, rfl, h1, h1', h2, h3⟩ := h
  unfold b2D at h2
  split at h2
  · cases (show x = _ from h1); cases (show y = _ from h1')
    cases h2
    exact call_max2 hc pins s σ H _ _ Q I r ⟨_, _, rfl, h3 _ _ (.old rfl)⟩
  · cases (show x = _ from h1); cases (show y = _ from h1')
    cases h2
    exact call_min2 hc pins s σ H _ _ Q I r ⟨_, _, rfl, h3 _ _ (.old rfl)⟩
  · cases h2
end
end Mini

end
section
set_option Elab.async false
set_option linter.all false
set_option maxRecDepth 100000
set_option maxHeartbeats 4000000
/-! Mini, part 7: what an expression's meaning promises of the heap. -/
namespace Mini
open PySem PySem.Spec PyProof.Rows L2
section
variable (K : PySem.W.Frag) (S : Addr → Prop) (F : Fs) (σ : L2.St) (H : Hp)
/-- from F, H on to F', H', the slots ρ' -/
structure Go (F' : Fs) (ρ' : En) (H' : Hp) : Prop where
  env : EnvOk K S F' ρ' σ H'
  fr : Fr F H F' H'
  sub : ∀ i, F' i = F i ∨ F' i = []
inductive Res (ρ : En) : Sl → V → List Addr → Prop
  | slot {fl : Fl} {d : Dt} {v : V} {A : List Addr} : okFl fl = true → SlotRep K (Wt S F) H fl v d A → Res ρ (fl, d) v A
  | bo {i : Nat} {d : Dt} {v : V} : rd ρ i = some (.own, d) → σ[i]? = some (some v) → Res ρ (.bo i, d) v []
end
structure PostE (K : PySem.W.Frag) (S : Addr → Prop) (F : Fs) (σ : L2.St) (H : Hp) (r : Sl × En) (v : V) (H' : Hp) (F' : Fs) (A : List Addr) : Prop where
  env : EnvOk K (addS S A) F' r.2 σ H'
  res : Res K (addS S A) F' σ H' r.2 r.1 v A
  fr : Fr F H F' H'
  sub : ∀ i, F' i = F i ∨ F' i = []
  new : ∀ a ∈ A, (∃ j, a ∈ F j) ∨ H a = none
  apart : ∀ a ∈ A, ¬ S a
structure PostK (K : PySem.W.Frag) (S : Addr → Prop) (F : Fs) (σ : L2.St) (H : Hp) (r : Dt × En) (v : V) (H' : Hp) (F' : Fs) : Prop where
  go : Go K S F σ H F' r.2 H'
  rep : Rep K (Wt S F') H' r.1 v
def tD (K : PySem.W.Frag) (f : En → Option (Sl × En)) : TE := fun σ H Q => ∃ S F ρ r, EnvOk K S F ρ σ H ∧ f ρ = some r ∧ ∀ v H' F' A, PostE K S F σ H r v H' F' A → Q v H'
def tK (K : PySem.W.Frag) (f : En → Option (Dt × En)) : TE := fun σ H Q => ∃ S F ρ r, EnvOk K S F ρ σ H ∧ f ρ = some r ∧ ∀ v H' F', PostK K S F σ H r v H' F' → Q v H'
def tT (K : PySem.W.Frag) (f : En → Option (Bool × En)) : TT := fun σ H Q => ∃ S F ρ r, EnvOk K S F ρ σ H ∧ f ρ = some r ∧ ∀ H' F', Go K S F σ H F' r.2 H' → Q r.1 H'
section
variable {K : PySem.W.Frag} {S : Addr → Prop} {F F1 F2 : Fs} {σ : L2.St} {H H1 H2 : Hp} {ρ ρ1 ρ2 : En}
theorem Go.refl (e : EnvOk K S F ρ σ H) : Go K S F σ H F ρ H := ⟨e, Fr.refl F H, fun _ => .inl rfl⟩
theorem Go.trans (a : Go K S F σ H F1 ρ1 H1) (b : Go K S F1 σ H1 F2 ρ2 H2) : Go K S F σ H F2 ρ2 H2 := ⟨b.env, a.fr.trans b.fr, fun i => by
  rcases b.sub i with e | e
  · rw [e]; exact a.sub i
  · exact .inr e⟩
theorem Go.same (h : Same H1 H2) (a : Go K S F σ H F1 ρ1 H1) : Go K S F σ H F1 ρ1 H2 := ⟨a.env.same h, a.fr.trans (Fr.same h), a.sub⟩
theorem Go.wt (a : Go K S F σ H F1 ρ1 H1) {b : Addr} (h : Wt S F1 b) : Wt S F b := by
  rcases h with h | ⟨i, h⟩
  · exact .inl h
  · rcases a.sub i with e | e
    · rw [e] at h; exact .inr ⟨i, h⟩
    · rw [e] at h; cases h
/-- a value that is kept away from what may change -/
theorem Go.rep (a : Go K S F σ H F1 ρ1 H1) {d : Dt} {v : V} (r : Rep K (Wt S F) H d v) : Rep K (Wt S F1) H1 d v :=
  r.step (fun b o e n => a.fr.keep b o e fun i z => n (.inr ⟨i, z⟩)) fun b z => .inl (a.wt z)
theorem Go.reps (a : Go K S F σ H F1 ρ1 H1) {d : List Dt} {v : List V} (r : Reps K (Wt S F) H d v) : Reps K (Wt S F1) H1 d v :=
  r.step (fun b o e n => a.fr.keep b o e fun i z => n (.inr ⟨i, z⟩)) fun b z => .inl (a.wt z)
/-- fewer things outside -/
theorem Go.weak {S' : Addr → Prop} (h : ∀ a, S' a → S a) (a : Go K S F σ H F1 ρ1 H1) : Go K S' F σ H F1 ρ1 H1 := ⟨a.env.weak h, a.fr, a.sub⟩
section
variable {r : Sl × En} {v : V} {A : List Addr}
theorem PostE.go (p : PostE K S F σ H r v H1 F1 A) : Go K S F σ H F1 r.2 H1 := ⟨p.env.weak fun _ => .inl, p.fr, p.sub⟩
theorem PostE.apart' (p : PostE K S F σ H r v H1 F1 A) : ∀ a ∈ A, ¬ Wt S F1 a := fun a ha z => by
  rcases z with z | ⟨i, z⟩
  · exact p.apart a ha z
  · exact p.env.ext i a z (.inr ha)
theorem PostE.rep (p : PostE K S F σ H r v H1 F1 A) (hk : keep? r.1.1 = true) : Rep K (Wt S F1) H1 r.1.2 v := by
  obtain ⟨⟨fl, d⟩, ρ'⟩ := r
  cases p.res with
  | slot _ q => exact q.share hk (fun a z => z.imp .inl id) p.apart'
  | bo _ _ => cases hk
theorem PostE.keep (p : PostE K S F σ H r v H1 F1 A) (hk : keep? r.1.1 = true) : PostK K S F σ H (r.1.2, r.2) v H1 F1 := ⟨p.go, p.rep hk⟩
/-- an operand, when the others have been reckoned too -/
theorem PostE.later (p : PostE K S F σ H r v H1 F1 A) (hr : read? r.1.1 = true) (g : Go K S F1 σ H1 F2 ρ2 H2) (hp : ∀ i, r.1.1 = .bo i → ρ2 = r.2) : RdW K (Wt S F2) H2 r.1.2 v := by
  obtain ⟨⟨fl, d⟩, ρ'⟩ := r
  cases p.res with
  | slot h q =>
    have hk : keep? fl = true := by cases fl <;> simp_all [okFl, keep?, read?]
    exact (g.rep (p.rep hk)).rd
  | bo e1 e2 =>
    rename_i i
    have e := hp i rfl
    subst e
    obtain ⟨v', hv, q⟩ := g.env.slot i .own d e1
    rw [e2] at hv
    cases hv
    generalize F2 i = A' at q
    cases q with
    | lst a b => exact ⟨_, _, rfl, a, b⟩
    | dct a b => exact ⟨_, _, rfl, .inl a, b⟩
theorem PostE.now (p : PostE K S F σ H r v H1 F1 A) (hr : read? r.1.1 = true) : RdW K (Wt S F1) H1 r.1.2 v := p.later hr (Go.refl p.go.env) fun _ _ => rfl
theorem EnvOk.grow {p : Addr} {o : HO} (e : EnvOk K S F ρ σ H) (h : H p = none) (ho : mu (upd H p o) p) : EnvOk K (addS S [p]) F ρ σ (upd H p o) := by
  have sm := same_upd (o := o) h
  have e' := e.same sm
  have sub : ∀ a, Wt (addS S [p]) F a → Wt S F a ∨ H a = none := fun a z => by
    rcases z with (z | z) | z
    · exact .inl (.inl z)
    · rw [List.mem_singleton.mp z]; exact .inr h
    · exact .inl (.inr z)
  refine ⟨e.len, fun i fl d q => ?_, e.emp, e.dis, fun i a ha z => ?_, fun a z => ?_⟩
  · obtain ⟨v, hv, r⟩ := e.slot i fl d q
    refine ⟨v, hv, r.step (fun b o q _ => sm b o q) sub (fun a z => ?_) e.wt⟩
    rw [upd_ne fun z2 => by rw [z2] at z; exact (r.mus p z).ne h]
  · rcases z with z | z
    · exact e.ext i a ha z
    · rw [List.mem_singleton.mp z] at ha
      exact e.wfree h (.inr ⟨i, ha⟩)
  · rcases z with z | z
    · exact e'.wf a z
    · rw [List.mem_singleton.mp z]; exact ho
/-- a new value, made where all stands well -/
theorem NewV.post {z : Sl} {w : V} (n : NewV K (Wt S F1) H1 z w H2) (g : Go K S F σ H F1 ρ1 H1) : ∃ A, PostE K S F σ H (z, ρ1) w H2 F1 A := by
  cases n with
  | old q => exact ⟨[], ⟨g.env.nil, .slot rfl (.sh (by
      have : addS S [] = S := funext fun a => propext addS_nil
      rw [this]; exact q)), g.fr, g.sub, fun a h => (by cases h), fun a h => (by cases h)⟩⟩
  | lst hp q =>
    rename_i p ds xs
    have sm := same_upd (o := .lst xs) hp
    refine ⟨[p], ⟨g.env.grow hp (.inl ⟨_, upd_same⟩), .slot rfl (.lst upd_same (q.step (fun b o e _ => sm b o e) fun a z => ?_)), g.fr.trans (Fr.same sm), g.sub, fun a h => ?_, fun a h => ?_⟩⟩
    · rcases z with (z | z) | z
      · exact .inl (.inl z)
      · rw [List.mem_singleton.mp z]; exact .inr hp
      · exact .inl (.inr z)
    · rw [List.mem_singleton.mp h]
      cases e : H p with
      | none => exact .inr rfl
      | some o => exact absurd hp (g.fr.there p (by rw [e]; exact Option.some_ne_none _))
    · rw [List.mem_singleton.mp h]
      exact fun z => g.env.wfree hp (.inl z)
  | dct hp q =>
    rename_i p es kvs
    have sm := same_upd (o := .dK kvs) hp
    refine ⟨[p], ⟨g.env.grow hp (.inr ⟨_, upd_same⟩), .slot rfl (.dct upd_same (q.step (fun b o e _ => sm b o e) fun a z => ?_)), g.fr.trans (Fr.same sm), g.sub, fun a h => ?_, fun a h => ?_⟩⟩
    · rcases z with (z | z) | z
      · exact .inl (.inl z)
      · rw [List.mem_singleton.mp z]; exact .inr hp
      · exact .inl (.inr z)
    · rw [List.mem_singleton.mp h]
      cases e : H p with
      | none => exact .inr rfl
      | some o => exact absurd hp (g.fr.there p (by rw [e]; exact Option.some_ne_none _))
    · rw [List.mem_singleton.mp h]
      exact fun z => g.env.wfree hp (.inl z)
  | tup hp q =>
    rename_i p ds xs
    have sm := same_upd (o := .tup xs) hp
    have e1 : addS S [] = S := funext fun a => propext addS_nil
    refine ⟨[], ⟨(g.env.same sm).nil, .slot rfl (.sh ?_), g.fr.trans (Fr.same sm), g.sub, fun a h => (by cases h), fun a h => (by cases h)⟩⟩
    rw [e1]
    exact Rep.mkTup upd_same (g.env.wfree hp) (q.step (fun b o e _ => sm b o e) fun a z => .inl z)
end
end
/-! ### rules weakened -/
section
variable {X : Cx}
theorem pe_w {e : Expr} {t t' : TE} (h : PE X e t) (w : ∀ σ H Q, t' σ H Q → t σ H Q) : PE X e t' := ⟨fun pins s σ H Q I q => h.run pins s σ H Q I (w σ H Q q)⟩
theorem pt_w {e : Expr} {t t' : TT} (h : PT X e t) (w : ∀ σ H Q, t' σ H Q → t σ H Q) : PT X e t' := ⟨fun pins s σ H Q I q => h.run pins s σ H Q I (w σ H Q q)⟩
theorem pw_w {e : Expr} {t t' : TT} (h : PW X e t) (w : ∀ σ H Q, t' σ H Q → t σ H Q) : PW X e t' := ⟨fun wh pins s σ H Q I q => h.run wh pins s σ H Q I (w σ H Q q)⟩
theorem pe_k {e : Expr} {f : En → Option (Sl × En)} (h : PE X e (tD X.K f)) : PE X e (tK X.K fun ρ => keepS (f ρ)) := pe_w h fun σ H Q ⟨S, F, ρ, r, e, h1, h2⟩ => by
  have h1 : keepS (f ρ) = some r := h1
  unfold keepS at h1
  obtain ⟨q, e1, e2⟩ := Option.bind_eq_some_iff.mp h1
  by_cases hk : keep? q.1.1 = true
  · rw [if_pos hk] at e2
    cases e2
    exact ⟨S, F, ρ, q, e, e1, fun v H' F' A p => h2 v H' F' (p.keep hk)⟩
  · rw [if_neg hk] at e2
    cases e2
/-- two operands, an operator -/
theorem two_w {fa fb f : En → Option (Sl × En)} {g : Dt → Dt → Option Sl} {okb : Fl → Bool} (hp : ∀ i, okb (.bo i) = true → ∀ ρ q, fb ρ = some q → q.2 = ρ)
    (hf : ∀ ρ r, f ρ = some r → ∃ a b z, fa ρ = some a ∧ read? a.1.1 = true ∧ okb a.1.1 = true ∧ fb a.2 = some b ∧ read? b.1.1 = true ∧ g a.1.2 b.1.2 = some z ∧ r = (z, b.2)) :
    ∀ σ H Q, tD X.K f σ H Q → tOp (rMk X.K g) (tD X.K fa) (tD X.K fb) σ H Q := by
  rintro σ H Q ⟨S, F, ρ, r, e, h1, h2⟩
  obtain ⟨a, b, z, ea, ra, oa, eb, rb, ez, rfl⟩ := hf ρ r h1
  refine ⟨S, F, ρ, a, e, ea, fun v H1 F1 A1 p1 => ⟨S, F1, a.2, b, p1.go.env, eb, fun w H2 F2 A2 p2 => ?_⟩⟩
  refine ⟨Wt S F2, a.1.2, b.1.2, z, p1.later ra p2.go fun i hi => ?_, p2.now rb, ez, fun u H3 n => ?_⟩
  · rw [hi] at oa
    exact hp i oa _ _ eb
  · obtain ⟨A, q⟩ := n.post (p1.go.trans p2.go)
    exact h2 _ _ _ _ q
theorem one_w {fa f : En → Option (Sl × En)} {g : Dt → Option Sl} (hf : ∀ ρ r, f ρ = some r → ∃ a z, fa ρ = some a ∧ read? a.1.1 = true ∧ g a.1.2 = some z ∧ r = (z, a.2)) :
    ∀ σ H Q, tD X.K f σ H Q → tCB (rMk1 X.K g) (tCons (tD X.K fa) tNil) σ H Q := by
  rintro σ H Q ⟨S, F, ρ, r, e, h1, h2⟩
  obtain ⟨a, z, ea, ra, ez, rfl⟩ := hf ρ r h1
  refine ⟨S, F, ρ, a, e, ea, fun v H1 F1 A1 p1 => ?_⟩
  refine ⟨Wt S F1, a.1.2, z, v, rfl, p1.now ra, ez, fun u H3 n => ?_⟩
  obtain ⟨A, q⟩ := n.post p1.go
  exact h2 _ _ _ _ q
end
end Mini

end
section
set_option Elab.async false
set_option linter.all false
set_option maxRecDepth 100000
set_option maxHeartbeats 4000000
/-! Mini, part 8: what a def promises; the check that a text says a meaning. -/
namespace Mini
open PySem PySem.Spec PyProof.Rows L2

/-! ### expressions that change nothing -/
section
variable (cl : CallS)
theorem keepS_snd {o : Option (Sl × En)} {r : Dt × En} (h : keepS o = some r) : ∃ q, o = some q ∧ keep? q.1.1 = true ∧ r = (q.1.2, q.2) := by
  unfold keepS at h
  obtain ⟨q, e1, e2⟩ := Option.bind_eq_some_iff.mp h
  by_cases hk : keep? q.1.1 = true
  · rw [if_pos hk] at e2
    cases e2
    exact ⟨q, e1, hk, rfl⟩
  · rw [if_neg hk] at e2
    cases e2
theorem bindS {α β : Type} {o : Option α} {f : α → Option β} {r : β} (h : o.bind f = some r) : ∃ a, o = some a ∧ f a = some r := Option.bind_eq_some_iff.mp h
theorem mapS {α β : Type} {o : Option α} {f : α → β} {r : β} (h : o.map f = some r) : ∃ a, o = some a ∧ f a = r := Option.map_eq_some_iff.mp h
theorem iteS {α : Type} {b : Bool} {o : Option α} {r : α} (h : (if b = true then o else none) = some r) : b = true ∧ o = some r := by
  cases b with
  | false => cases h
  | true => exact ⟨rfl, h⟩
theorem and2 {a b : Bool} (h : (a && b) = true) : a = true ∧ b = true := by simpa using h
theorem and3 {a b c : Bool} (h : (a && b && c) = true) : a = true ∧ b = true ∧ c = true := by
  rw [Bool.and_eq_true, Bool.and_eq_true] at h
  exact ⟨h.1.1, h.1.2, h.2⟩
mutual
theorem pure_ev : ∀ (e : E) (ρ : En) (r : Sl × En), pureE e = true → ev cl e ρ = some r → r.2 = ρ
  | .v i, ρ, r, _, h => by
    simp only [ev] at h
    split at h <;> first | cases h; rfl | cases h
  | .gl _ _, ρ, r, _, h => by cases h; rfl
  | .int _, ρ, r, _, h => by cases h; rfl
  | .str _, ρ, r, _, h => by cases h; rfl
  | .bl _, ρ, r, _, h => by cases h; rfl
  | .non, ρ, r, _, h => by cases h; rfl
  | .tup es, ρ, r, hp, h => by
    simp only [ev] at h
    obtain ⟨a, h1, h2⟩ := bindS h
    have e := pure_evL es ρ a (by simpa [pureE] using hp) h1
    split at h2 <;> first | cases h2; exact e | cases h2
  | .lst es, ρ, r, hp, h => by
    simp only [ev] at h
    obtain ⟨a, h1, h2⟩ := bindS h
    have e := pure_evL es ρ a (by simpa [pureE] using hp) h1
    split at h2 <;> first | cases h2; exact e | cases h2
  | .bin o a b, ρ, r, hp, h => by
    simp only [ev] at h
    obtain ⟨x, h1, h2⟩ := bindS h
    obtain ⟨_, h2⟩ := iteS h2
    obtain ⟨y, h3, h4⟩ := bindS h2
    obtain ⟨_, h4⟩ := iteS h4
    obtain ⟨z, _, rfl⟩ := mapS h4
    have hp' := and2 (show (pureE a && pureE b) = true by simpa [pureE] using hp)
    have e1 := pure_ev a ρ x hp'.1 h1
    have e2 := pure_ev b x.2 y hp'.2 h3
    exact e2.trans e1
  | .cmp o a b, ρ, r, hp, h => by
    simp only [ev] at h
    obtain ⟨x, h1, h2⟩ := bindS h
    obtain ⟨_, h2⟩ := iteS h2
    obtain ⟨y, h3, h4⟩ := bindS h2
    obtain ⟨_, h4⟩ := iteS h4
    obtain ⟨z, _, rfl⟩ := mapS h4
    have hp' := and2 (show (pureE a && pureE b) = true by simpa [pureE] using hp)
    have e1 := pure_ev a ρ x hp'.1 h1
    have e2 := pure_ev b x.2 y hp'.2 h3
    exact e2.trans e1
  | .idx a b, ρ, r, hp, h => by
    simp only [ev] at h
    obtain ⟨x, h1, h2⟩ := bindS h
    obtain ⟨_, h2⟩ := iteS h2
    obtain ⟨y, h3, h4⟩ := bindS h2
    obtain ⟨_, h4⟩ := iteS h4
    obtain ⟨z, _, rfl⟩ := mapS h4
    have hp' := and2 (show (pureE a && pureE b) = true by simpa [pureE] using hp)
    have e1 := pure_ev a ρ x hp'.1 h1
    have e2 := pure_ev b x.2 y hp'.2 h3
    exact e2.trans e1
  | .and a b, ρ, r, hp, h => by
    simp only [ev] at h
    obtain ⟨x, h1, h2⟩ := bindS h
    obtain ⟨q, k1, _, rfl⟩ := keepS_snd h1
    have hp' := and2 (show (pureE a && pureE b) = true by simpa [pureE] using hp)
    have e1 := pure_ev a ρ q hp'.1 k1
    obtain ⟨t, _, h2⟩ := bindS h2
    split at h2
    · obtain ⟨y, h3, rfl⟩ := mapS h2
      obtain ⟨q', k3, _, rfl⟩ := keepS_snd h3
      exact (pure_ev b q.2 q' hp'.2 k3).trans e1
    · cases h2; exact e1
  | .or a b, ρ, r, hp, h => by
    simp only [ev] at h
    obtain ⟨x, h1, h2⟩ := bindS h
    obtain ⟨q, k1, _, rfl⟩ := keepS_snd h1
    have hp' := and2 (show (pureE a && pureE b) = true by simpa [pureE] using hp)
    have e1 := pure_ev a ρ q hp'.1 k1
    obtain ⟨t, _, h2⟩ := bindS h2
    split at h2
    · cases h2; exact e1
    · obtain ⟨y, h3, rfl⟩ := mapS h2
      obtain ⟨q', k3, _, rfl⟩ := keepS_snd h3
      exact (pure_ev b q.2 q' hp'.2 k3).trans e1
  | .b2 f a b, ρ, r, hp, h => by
    simp only [ev] at h
    obtain ⟨x, h1, h2⟩ := bindS h
    obtain ⟨q, k1, _, rfl⟩ := keepS_snd h1
    have hp' := and2 (show (pureE a && pureE b) = true by simpa [pureE] using hp)
    have e1 := pure_ev a ρ q hp'.1 k1
    obtain ⟨y, h3, h4⟩ := bindS h2
    obtain ⟨q', k3, _, rfl⟩ := keepS_snd h3
    obtain ⟨z, _, rfl⟩ := mapS h4
    exact (pure_ev b q.2 q' hp'.2 k3).trans e1
  | .m1 f a b, ρ, r, hp, h => by
    simp only [ev] at h
    obtain ⟨x, h1, h2⟩ := bindS h
    obtain ⟨_, h2⟩ := iteS h2
    have hp' := and2 (show (pureE a && pureE b) = true by simpa [pureE] using hp)
    have e1 := pure_ev a ρ x hp'.1 h1
    obtain ⟨y, h3, h4⟩ := bindS h2
    obtain ⟨q', k3, _, rfl⟩ := keepS_snd h3
    obtain ⟨z, _, rfl⟩ := mapS h4
    exact (pure_ev b x.2 q' hp'.2 k3).trans e1
  | .slL a b, ρ, r, hp, h => by
    simp only [ev] at h
    obtain ⟨x, h1, h2⟩ := bindS h
    obtain ⟨_, h2⟩ := iteS h2
    have hp' := and2 (show (pureE a && pureE b) = true by simpa [pureE] using hp)
    have e1 := pure_ev a ρ x hp'.1 h1
    obtain ⟨y, h3, h4⟩ := bindS h2
    have e2 := pure_ev b x.2 y hp'.2 h3
    split at h4
    · obtain ⟨z, _, rfl⟩ := mapS h4
      exact e2.trans e1
    · cases h4
  | .slU a b, ρ, r, hp, h => by
    simp only [ev] at h
    obtain ⟨x, h1, h2⟩ := bindS h
    obtain ⟨_, h2⟩ := iteS h2
    have hp' := and2 (show (pureE a && pureE b) = true by simpa [pureE] using hp)
    have e1 := pure_ev a ρ x hp'.1 h1
    obtain ⟨y, h3, h4⟩ := bindS h2
    have e2 := pure_ev b x.2 y hp'.2 h3
    split at h4
    · obtain ⟨z, _, rfl⟩ := mapS h4
      exact e2.trans e1
    · cases h4
  | .neg a, ρ, r, hp, h => by
    simp only [ev] at h
    obtain ⟨x, h1, h2⟩ := bindS h
    have e1 := pure_ev a ρ x (by simpa [pureE] using hp) h1
    split at h2 <;> first | cases h2; exact e1 | cases h2
  | .not a, ρ, r, hp, h => by
    simp only [ev] at h
    obtain ⟨x, h1, h2⟩ := bindS h
    have e1 := pure_ev a ρ x (by simpa [pureE] using hp) h1
    obtain ⟨_, h2⟩ := iteS h2
    obtain ⟨z, _, rfl⟩ := mapS h2
    exact e1
  | .rev a, ρ, r, hp, h => by
    simp only [ev] at h
    obtain ⟨x, h1, h2⟩ := bindS h
    have e1 := pure_ev a ρ x (by simpa [pureE] using hp) h1
    obtain ⟨_, h2⟩ := iteS h2
    obtain ⟨z, _, rfl⟩ := mapS h2
    exact e1
  | .b1 f a, ρ, r, hp, h => by
    simp only [ev] at h
    obtain ⟨x, h1, h2⟩ := bindS h
    have e1 := pure_ev a ρ x (by simpa [pureE] using hp) h1
    obtain ⟨_, h2⟩ := iteS h2
    obtain ⟨z, _, rfl⟩ := mapS h2
    exact e1
  | .chain o o' a b c, ρ, r, hp, h => by
    simp only [ev] at h
    have hp' := and3 (show (pureE a && pureE b && pureE c) = true by simpa [pureE] using hp)
    obtain ⟨x, h1, h2⟩ := bindS h
    obtain ⟨_, h2⟩ := iteS h2
    have e1 := pure_ev a ρ x hp'.1 h1
    obtain ⟨y, h3, h4⟩ := bindS h2
    have e2 := pure_ev b x.2 y hp'.2.1 h3
    obtain ⟨_, h4⟩ := iteS h4
    obtain ⟨z, _, h5⟩ := bindS h4
    split at h5
    · obtain ⟨t, h6, h7⟩ := bindS h5
      have e3 := pure_ev c y.2 t hp'.2.2 h6
      obtain ⟨_, h7⟩ := iteS h7
      obtain ⟨_, _, rfl⟩ := mapS h7
      exact e3.trans (e2.trans e1)
    · cases h5
      exact e2.trans e1
  | .ite c a b, ρ, r, hp, h => by
    simp only [ev] at h
    have hp' := and3 (show (pureE c && pureE a && pureE b) = true by simpa [pureE] using hp)
    obtain ⟨x, h1, h2⟩ := bindS h
    obtain ⟨x0, h0, h00⟩ := bindS h1
    have e1 : x.2 = ρ := by
      unfold tst at h00
      obtain ⟨_, h00⟩ := iteS h00
      obtain ⟨_, _, rfl⟩ := mapS h00
      exact pure_ev c ρ x0 hp'.1 h0
    split at h2
    · obtain ⟨y, h3, h4⟩ := bindS h2
      obtain ⟨_, h4⟩ := iteS h4
      cases h4
      exact (pure_ev a x.2 _ hp'.2.1 h3).trans e1
    · obtain ⟨y, h3, h4⟩ := bindS h2
      obtain ⟨_, h4⟩ := iteS h4
      cases h4
      exact (pure_ev b x.2 _ hp'.2.2 h3).trans e1
  | .slLU a b c, ρ, r, hp, h => by
    simp only [ev] at h
    have hp' := and3 (show (pureE a && pureE b && pureE c) = true by simpa [pureE] using hp)
    obtain ⟨x, h1, h2⟩ := bindS h
    obtain ⟨_, h2⟩ := iteS h2
    have e1 := pure_ev a ρ x hp'.1 h1
    obtain ⟨y, h3, h4⟩ := bindS h2
    have e2 := pure_ev b x.2 y hp'.2.1 h3
    split at h4
    · obtain ⟨t, h6, h7⟩ := bindS h4
      have e3 := pure_ev c y.2 t hp'.2.2 h6
      split at h7
      · obtain ⟨z, _, rfl⟩ := mapS h7
        exact e3.trans (e2.trans e1)
      · cases h7
    · cases h4
  | .get2 a b c, ρ, r, hp, h => by
    simp only [ev] at h
    have hp' := and3 (show (pureE a && pureE b && pureE c) = true by simpa [pureE] using hp)
    obtain ⟨x, h1, h2⟩ := bindS h
    obtain ⟨_, h2⟩ := iteS h2
    have e1 := pure_ev a ρ x hp'.1 h1
    obtain ⟨y, h3, h4⟩ := bindS h2
    obtain ⟨q', k3, _, rfl⟩ := keepS_snd h3
    have e2 := pure_ev b x.2 q' hp'.2.1 k3
    obtain ⟨t, h6, h7⟩ := bindS h4
    obtain ⟨q2, k6, _, rfl⟩ := keepS_snd h6
    have e3 := pure_ev c q'.2 q2 hp'.2.2 k6
    obtain ⟨z, _, rfl⟩ := mapS h7
    exact e3.trans (e2.trans e1)
  | .call f as, ρ, r, hp, h => by
    simp only [ev] at h
    obtain ⟨x, h1, h2⟩ := bindS h
    obtain ⟨e1, e2⟩ := pure_evA as ρ x (by simpa [pureE] using hp) h1
    obtain ⟨_, h2⟩ := iteS h2
    obtain ⟨q, _, h3⟩ := bindS h2
    obtain ⟨_, h3⟩ := iteS h3
    obtain ⟨ρ', h4, rfl⟩ := mapS h3
    have key : ∀ (D : List (Dt ⊕ Nat)) (os : List Dt), (∀ y ∈ D, ∃ d, y = .inl d) → putIo x.2 D os = some ρ' → ρ' = x.2 := by
      intro D
      induction D with
      | nil => intro os _ h; cases os with
        | nil => cases h; rfl
        | cons a b => cases h
      | cons y D ih =>
        intro os hD h
        obtain ⟨d, rfl⟩ := hD y (List.mem_cons_self ..)
        cases os with
        | nil => cases h
        | cons a b => exact ih b (fun z hz => hD z (List.mem_cons_of_mem _ hz)) h
    exact (key _ _ e2 h4).trans e1
  | .sh _, _, _, hp, _ => by cases hp
  | .mv _, _, _, hp, _ => by cases hp
  | .app _ _, _, _, hp, _ => by cases hp
  | .ext _ _, _, _, hp, _ => by cases hp
  | .pop _, _, _, hp, _ => by cases hp
  | .io _, _, _, hp, _ => by cases hp
  | .comp _ _ _ _, _, _, hp, _ => by cases hp
  | .compIf _ _ _ _ _, _, _, hp, _ => by cases hp
  | .dcomp _ _ _ _ _, _, _, hp, _ => by cases hp
  | .dict .., _, _, hp, _ => by cases hp
  | .litems _, _, _, hp, _ => by cases hp
  | .lrg _ _, _, _, hp, _ => by cases hp
  | .fl _ _, _, _, hp, _ => by cases hp
  | .mkS _ _, _, _, hp, _ => by cases hp
theorem pure_evL : ∀ (es : Es) (ρ : En) (r : List Dt × En), pureEs es = true → evL cl es ρ = some r → r.2 = ρ
  | .nil, ρ, r, _, h => by simp only [evL] at h; cases h; rfl
  | .cons e es, ρ, r, hp, h => by
    simp only [evL] at h
    have hp' := and2 (show (pureE e && pureEs es) = true by simpa [pureEs] using hp)
    obtain ⟨x, h1, h2⟩ := bindS h
    obtain ⟨q, k1, _, rfl⟩ := keepS_snd h1
    obtain ⟨y, h3, rfl⟩ := mapS h2
    exact (pure_evL es q.2 y hp'.2 h3).trans (pure_ev e ρ q hp'.1 k1)
  | .star e es, ρ, r, hp, h => by
    simp only [evL] at h
    have hp' := and2 (show (pureE e && pureEs es) = true by simpa [pureEs] using hp)
    obtain ⟨x, h1, h2⟩ := bindS h
    obtain ⟨_, h2⟩ := iteS h2
    obtain ⟨ds, _, h2⟩ := bindS h2
    obtain ⟨y, h3, rfl⟩ := mapS h2
    exact (pure_evL es x.2 y hp'.2 h3).trans (pure_ev e ρ x hp'.1 h1)
theorem pure_evA : ∀ (es : Es) (ρ : En) (r : (List (Dt ⊕ Nat) × List Nat) × En), pureEs es = true → evA cl es ρ = some r → r.2 = ρ ∧ ∀ y ∈ r.1.1, ∃ d, y = .inl d
  | .nil, ρ, r, _, h => by simp only [evA] at h; cases h; exact ⟨rfl, fun y hy => by cases hy⟩
  | .cons e es, ρ, r, hp, h => by
    have hp' := and2 (show (pureE e && pureEs es) = true by simpa [pureEs] using hp)
    by_cases hio : ∃ i, e = .io i
    · obtain ⟨i, rfl⟩ := hio
      cases hp'.1
    · have h' : (keepS (ev cl e ρ)).bind (fun x => (evA cl es x.2).map fun q => ((.inl x.1 :: q.1.1, q.1.2), q.2)) = some r := by
        rw [← h]
        cases e <;> first | rfl | exact absurd ⟨_, rfl⟩ hio
      obtain ⟨x, h1, h2⟩ := bindS h'
      obtain ⟨q, k1, _, rfl⟩ := keepS_snd h1
      obtain ⟨y, h3, rfl⟩ := mapS h2
      obtain ⟨e1, e2⟩ := pure_evA es q.2 y hp'.2 h3
      refine ⟨e1.trans (pure_ev e ρ q hp'.1 k1), fun z hz => ?_⟩
      rcases List.mem_cons.mp hz with rfl | hz
      · exact ⟨_, rfl⟩
      · exact e2 z hz
  | .star e es, ρ, r, hp, h => by simp only [evA] at h; cases h
end
end
end Mini

end
section
set_option Elab.async false
set_option linter.all false
set_option maxRecDepth 100000
set_option maxHeartbeats 4000000
/-! Mini, part 9: what a def promises; where a text stands; the check. -/
namespace Mini
open PySem PySem.Spec PyProof.Rows L2

/-! ### a def's promise: a meaning over data -/
/-- the arguments behind a call: the lent ones hold what is told -/
def outEn (as : List Sl) (os : List Dt) : En := List.zipWith (fun (s : Sl) o => some (s.1, if s.1 = .sh then s.2 else o)) as os
structure FnPost (K : PySem.W.Frag) (S : Addr → Prop) (F : Fs) (as : List Sl) (vs : List V) (H : Hp) (r : Sl × List Dt) (v : V) (H' : Hp) (A : List Addr) : Prop where
  len : r.2.length = as.length
  ok : okFl r.1.1 = true
  keep : ∀ b o, H b = some o → (∀ i, b ∉ F i) → H' b = some o
  there : ∀ b, H b ≠ none → H' b ≠ none
  new : ∀ a ∈ A, H a = none
  env : EnvOk K (addS S A) F (outEn as r.2) (vs.map some) H'
  res : SlotRep K (Wt (addS S A) F) H' r.1.1 v r.1.2 A
def spD (K : PySem.W.Frag) (φ : List Sl → Option (Sl × List Dt)) : Sp := fun vs H Q _ => ∃ S F as r, EnvOk K S F (as.map some) (vs.map some) H ∧ φ as = some r ∧ ∀ v H' A, FnPost K S F as vs H r v H' A → Q v H'
structure FnG (P : Program) (w : World) (K : PySem.W.Frag) (mg : Str → Option Value) (base : Heap) (k : Nat) (f : Addr) (fd : FuncData) (ps : List Str) (sp : Sp) : Prop where
  len : ∀ vs H Q E, sp vs H Q E → vs.length = ps.length
  run : ∀ (A : Around) (outer : List Env) (s : Shared) (H : Hp) (args : Args) (us : List Value) (vs : List V) (Q : VK) (E : XK), Room k A → A.guards = some [] → Env0 P w K mg base A outer s H → BindsTo s fd args (ps.zip us) → Vals vs us → sp vs H Q E →
    codeAny (model P w) A (.call (.ref f) args) (CR CX0 outer P w H s Q E) s
theorem FnG.of {P : Program} {w : World} {K : PySem.W.Frag} {mg : Str → Option Value} {base : Heap} {k : Nat} {f : Addr} {fd : FuncData} {ps : List Str} {sp : Sp} (F : FnOk P w K mg base CX0 k f fd ps sp) : FnG P w K mg base k f fd ps sp :=
  ⟨F.len, fun A outer s H args us vs Q E hr _ => F.run A outer s H args us vs Q E hr⟩
theorem FnG.mono {P : Program} {w : World} {K : PySem.W.Frag} {mg : Str → Option Value} {base : Heap} {j k : Nat} {f : Addr} {fd : FuncData} {ps : List Str} {sp : Sp} (F : FnG P w K mg base j f fd ps sp) (h : j ≤ k) : FnG P w K mg base k f fd ps sp :=
  ⟨F.len, fun A outer s H args us vs Q E hr => F.run A outer s H args us vs Q E (hr.mono h)⟩
section
variable {X : Cx} {k : Nat} {f : Addr} {fd : FuncData} {ps : List Str} {sp : Sp} {x : Str} {p pos : Pos} {e : Expr} {es : List Expr} {t : TA}
theorem pe_callG (F : FnG X.prog X.w X.K X.mg X.base k f fd ps sp) (hr : Room k X.A) (hgu : X.A.guards = some []) (hg : Gl X x) (hm : X.mg x = some (.ref f)) (hk : PySem.W.keepIn X.K (.ref f) = true) (hb : Binds X.K fd ps [])
    (ha : PA X (e :: es) t) (hdb : (x == ("__debug__" : Str)) = false) (he : starEach (e :: es) X.env = (false, eval e X.env) :: starEach es X.env) (hpl : (backTo pos (starEach es X.env)).any (·.1) = false) :
    PE X (.Call (.Name x p) (e :: es) [] pos) (tCall sp [] E0 t) := by
  refine ⟨fun pins s σ H Q I h => ?_⟩
  refine wpAny_Call_Name_kw (ld_glob I hg hm ?_ hdb)
  refine PySem.W.callWith_K (h₀ := X.base) I.ok.mod.kin hk (thn (ha.run pos pins s σ H _ I h) fun us s1 ⟨vs, H1, I1, r, q⟩ => ⟨I1.kIn, ?_⟩) he hpl
  have q : sp vs H1 Q E0 := by
    have q' : sp (vs ++ []) H1 Q E0 := q
    rwa [List.append_nil] at q'
  have hl : (us ++ ([] : List Value)).length = ps.length := by rw [List.append_nil, ← r.length]; exact F.len _ _ _ _ q
  have hbn := hb s1 us I1.kIn hl
  rw [List.append_nil] at hbn
  refine wpAny_call (codeAny_mono (F.run X.A X.stack s1 H1 ⟨us, []⟩ us vs Q E0 hr hgu I1.env0 hbn r q) fun r' s' hq => ?_)
  cases r' with
  | error e => exact False.elim hq
  | ok fl =>
    cases fl with
    | ret u => exact I1.after hq
    | next => exact False.elim hq
    | brk => exact False.elim hq
    | cont => exact False.elim hq
end

/-! ### where a text stands -/
def freeN : List Str := ["len", "abs", "tuple", "list", "sum", "sorted", "int", "str", "repr", "all", "any", "max", "min", "dict", "range", "enumerate", "zip"]
structure Gd (cl : CallS) (N : List Str) (sc st : Scope) (X : Cx) : Prop where
  eN : X.N = N
  nd : N.Nodup
  es : X.env.scope = sc
  calm : X.calm = true
  xe : X.xe = fun _ _ => False
  guards : X.A.guards = some []
  room : X.A.units + 100 < cLine
  st : ∀ x, (st.names.lookup x = some .local ∨ st.names.lookup x = some .cell) → L2.Loc sc x ∧ (X.fn x = true ∨ sc.names.lookup x = some .local)
  free : ∀ x ∈ freeN, X.mg x = none
  fns : ∀ f as r, cl f as = some r → ∃ k a fd ps, X.mg f = some (.ref a) ∧ PySem.W.keepIn X.K (.ref a) = true ∧ Binds X.K fd ps [] ∧ Room k X.A ∧ FnG X.prog X.w X.K X.mg X.base k a fd ps (spD X.K (cl f))
theorem Gd.blk {cl : CallS} {N : List Str} {sc st : Scope} {X : Cx} (g : Gd cl N sc st X) (s : Shared) (H : Hp) (scope : Scope) (cs : List (Str × Addr)) (C : Addr) (fp : List Addr) :
    Gd cl N (relS scope sc) scope (X.blk s H scope (compEnvC scope cs C X.env) fp) := by
  refine ⟨g.eN, g.nd, ?_, g.calm, rfl, g.guards, g.room, fun x h => ?_, g.free, g.fns⟩
  · rw [← g.es]
    rfl
  · rcases h with h | h
    · exact ⟨.inl (lookup_relS_keep (by decide) h), .inr (lookup_relS_keep (by decide) h)⟩
    · refine ⟨.inr (lookup_relS_keep (by decide) h), .inl ?_⟩
      show (scope.names.lookup x == some .cell) = true
      rw [h]
      rfl

/-! ### the check -/
def isVis (sc : Scope) (x : Str) : Bool := match sc.names.lookup x with
  | some .local | some .cell | some .free => true
  | _ => false
def isSto (st : Scope) (x : Str) : Bool := match st.names.lookup x with
  | some .local | some .cell => true
  | _ => false
def isGlo (sc : Scope) (x : Str) : Bool := match sc.names.lookup x with
  | some .globalImplicit => true
  | _ => false
def notDun (x : Str) : Bool := !(x == ("__debug__" : Str)) && !(x == ("__classdict__" : Str)) && !(x == ("__name__" : Str))
def b1N : B1 → Str
  | .len => "len" | .abs => "abs" | .tuple => "tuple" | .list => "list" | .sum => "sum" | .sorted => "sorted" | .int => "int" | .str => "str" | .repr => "repr" | .all => "all" | .any => "any" | .max => "max" | .min => "min" | .dict => "dict"
def b2N : B2 → Str
  | .max => "max" | .min => "min"
def ownOf (N : List Str) (own : List Nat) : List (Str × Nat) := own.map fun i => (N.getD i "", i)
def notSet : Expr → Bool
  | .Set .. => false
  | _ => true
def noSt : Es → Bool
  | .nil => true
  | .cons _ r => noSt r
  | .star .. => false
def isNm : Expr → Bool
  | .Name .. => true
  | _ => false
def chkKs : List (Int ⊕ Str) → List (Option Expr) → Bool
  | [], [] => true
  | .inl i :: ks, some (.Constant (.int j) _ _) :: r => decide (i = j) && chkKs ks r
  | .inr x :: ks, some (.Constant (.str y) _ _) :: r => decide (x = y) && chkKs ks r
  | _, _ => false
section
variable (N : List Str)
def chkNm (sc : Scope) (i : Nat) : Expr → Bool
  | .Name x _ => decide (N[i]? = some x) && isVis sc x && notDun x
  | _ => false
def chkGl (sc : Scope) (n : Str) : Expr → Bool
  | .Name x _ => decide (x = n) && isGlo sc x && notDun x
  | _ => false
mutual
def chkP (st : Scope) : Pat → Expr → Bool
  | .nm i, .Name x _ => decide (N[i]? = some x) && isSto st x
  | .tp ps, .Tuple es _ _ => chkPs st ps es
  | _, _ => false
def chkPs (st : Scope) : Pats → List Expr → Bool
  | .nil, [] => true
  | .cons p ps, e :: es => chkP st p e && chkPs st ps es
  | _, _ => false
end
mutual
def slots : Pat → List Nat
  | .nm i => [i]
  | .tp ps => slotss ps
def slotss : Pats → List Nat
  | .nil => []
  | .cons p ps => slots p ++ slotss ps
end
mutual
def chkE (sc : Scope) : E → Expr → Bool
  | .v i, e => chkNm N sc i e
  | .sh i, e => chkNm N sc i e
  | .mv i, e => chkNm N sc i e
  | .int i, .Constant (.int j) _ _ => decide (i = j)
  | .str x, .Constant (.str y) _ _ => decide (x = y)
  | .bl b, .Constant (.bool c) _ _ => b == c
  | .non, .Constant .none _ _ => true
  | .tup es, .Tuple l _ _ => chkL sc es l
  | .lst es, .List l _ => chkL sc es l
  | .bin o a b, .BinOp x op y _ => decide (op = boOp o) && chkE sc a x && chkE sc b y
  | .neg a, .UnaryOp .USub x _ => chkE sc a x
  | .not a, .UnaryOp .Not x _ => chkE sc a x
  | .cmp o a b, .Compare x [op] [y] _ => decide (op = coOp o) && chkE sc a x && chkE sc b y
  | .chain o o' a b c, .Compare x [op, op'] [y, z] _ => decide (op = coOp o) && decide (op' = coOp o') && chkE sc a x && chkE sc b y && chkE sc c z
  | .and a b, .BoolOp .And (x :: y :: r) pos => chkE sc a x && (match r with | [] => chkE sc b y | _ => chkE sc b (.BoolOp .And (y :: r) pos))
  | .or a b, .BoolOp .Or (x :: y :: r) pos => chkE sc a x && (match r with | [] => chkE sc b y | _ => chkE sc b (.BoolOp .Or (y :: r) pos))
  | .ite c a b, .IfExp x y z _ => chkE sc c x && chkE sc a y && chkE sc b z
  | .idx a b, .Subscript x y _ => chkE sc a x && chkE sc b y
  | .slL a b, .Subscript x (.Slice (some y) none none _) _ => chkE sc a x && chkE sc b y
  | .slU a b, .Subscript x (.Slice none (some y) none _) _ => chkE sc a x && chkE sc b y
  | .slLU a b c, .Subscript x (.Slice (some y) (some z) none _) _ => chkE sc a x && chkE sc b y && chkE sc c z
  | .rev a, .Subscript x (.Slice none none (some (.UnaryOp .USub (.Constant (.int 1) _ _) _)) _) _ => chkE sc a x
  | .b1 f a, .Call n [x] [] _ => chkGl sc (b1N f) n && chkE sc a x
  | .b2 f a b, .Call n [x, y] [] _ => chkGl sc (b2N f) n && chkE sc a x && chkE sc b y
  | .call f as, .Call n (x :: xs) [] _ => chkGl sc f n && chkA sc as (x :: xs)
  | .app i a, .Call (.Attribute n m ap) [x] [] cp => chkNm N sc i n && decide (m = "append") && (ap.endLine == cp.line) && chkE sc a x
  | .ext i a, .Call (.Attribute n m ap) [x] [] cp => chkNm N sc i n && decide (m = "extend") && (ap.endLine == cp.line) && chkE sc a x
  | .pop i, .Call (.Attribute n m ap) [] [] cp => chkNm N sc i n && decide (m = "pop") && (ap.endLine == cp.line)
  | .comp elt p it own, .ListComp x [⟨tg, iter, [], 0⟩] scope _ => blkC N sc scope (ownOf N own) && (slots p).all (own.contains ·) && chkP N scope p tg && chkE (relS scope sc) elt x && chkI sc it iter tg
  | .compIf elt p it own c, .ListComp x [⟨tg, iter, [y], 0⟩] scope _ => blkC N sc scope (ownOf N own) && (slots p).all (own.contains ·) && chkP N scope p tg && chkE (relS scope sc) elt x && chkE (relS scope sc) c y && chkI sc it iter tg
  | .dcomp k v p it own, .DictComp x y [⟨tg, iter, [], 0⟩] scope _ => blkC N sc scope (ownOf N own) && (slots p).all (own.contains ·) && chkP N scope p tg && chkE (relS scope sc) k x && chkE (relS scope sc) v y && chkI sc it iter tg
  | .fl i k, .Subscript n (.Constant (.str y) _ _) _ => chkNm N sc i n && decide (k = y)
  | .mkS c m, .Dict [some (.Constant (.str k1) _ _), some (.Constant (.str k2) _ _), some (.Constant (.str k3) _ _), some (.Constant (.str k4) _ _)] [x, .Constant (.int l) _ _, y, .Constant (.int t) _ _] _ =>
    decide (k1 = "cells") && decide (k2 = "left") && decide (k3 = "mixed") && decide (k4 = "turn") && decide (l = 1) && decide (t = 0) && chkE sc c x && chkE sc m y
  | .get2 a b c, .Call (.Attribute n m ap) [x, y] [] cp => isNm n && decide (m = "get") && (ap.endLine == cp.line) && chkE sc a n && chkE sc b x && chkE sc c y
  | .m1 .get a b, .Call (.Attribute n m ap) [x] [] cp => isNm n && decide (m = "get") && (ap.endLine == cp.line) && chkE sc a n && chkE sc b x
  | .dict ks vs, .Dict kx vx _ => chkKs ks kx && noSt vs && decide (kx.length = vx.length) && chkL sc vs vx
  | .litems i, .Call n' [.Call (.Attribute n m ap) [] [] cp] [] _ => chkGl sc "list" n' && decide (m = "items") && (ap.endLine == cp.line) && chkNm N sc i n
  | .lrg a b, .Call n [.Call n' [x, y] [] _] [] _ => chkGl sc "list" n && chkGl sc "range" n' && chkE sc a x && chkE sc b y
  | _, _ => false
def chkL (sc : Scope) : Es → List Expr → Bool
  | .nil, [] => true
  | .cons a r, x :: xs => chkE sc a x && chkL sc r xs
  | .star a r, .Starred x _ :: xs => chkE sc a x && chkL sc r xs
  | _, _ => false
def chkA (sc : Scope) : Es → List Expr → Bool
  | .nil, [] => true
  | .cons (.io i) r, x :: xs => chkNm N sc i x && chkA sc r xs
  | .cons a r, x :: xs => chkE sc a x && chkA sc r xs
  | _, _ => false
def chkI (sc : Scope) : It → Expr → Expr → Bool
  | .e a, x, _ => chkE sc a x
  | .scr i, x, _ => chkNm N sc i x
  | .rng1 a, .Call n [x] [] _, _ => chkGl sc "range" n && chkE sc a x
  | .rng2 a b, .Call n [x, y] [] _, _ => chkGl sc "range" n && chkE sc a x && chkE sc b y
  | .rng3 a b c, .Call n [x, y, z] [] _, _ => chkGl sc "range" n && chkE sc a x && chkE sc b y && chkE sc c z
  | .enum a, .Call n [x] [] _, .Tuple .. => chkGl sc "enumerate" n && chkE sc a x
  | .zip a b, .Call n [x, y] [] _, .Tuple .. => chkGl sc "zip" n && chkE sc a x && chkE sc b y
  | .items i, .Call (.Attribute n m ap) [] [] cp, .Tuple .. => chkNm N sc i n && decide (m = "items") && (ap.endLine == cp.line)
  | .keys i, x, _ => chkNm N sc i x
  | _, _, _ => false
end
end
end Mini

end
section
set_option Elab.async false
set_option linter.all false
set_option maxRecDepth 100000
set_option maxHeartbeats 4000000
/-! Mini, part 10: each expression's rule. -/
namespace Mini
open PySem PySem.Spec PyProof.Rows L2
section
variable {K : PySem.W.Frag} {S : Addr → Prop} {F F1 F2 : Fs} {σ : L2.St} {H H1 H2 : Hp} {ρ ρ1 ρ2 : En}
theorem addS0 : addS S [] = S := funext fun a => propext addS_nil
theorem Go.shared (g : Go K S F σ H F1 ρ1 H1) {d : Dt} {v : V} (r : Rep K (Wt S F1) H1 d v) : PostE K S F σ H ((.sh, d), ρ1) v H1 F1 [] :=
  ⟨g.env.nil, .slot rfl (.sh (by rw [addS0]; exact r)), g.fr, g.sub, fun a h => (by cases h), fun a h => (by cases h)⟩
theorem set_self {i : Nat} {v : V} (h : σ[i]? = some (some v)) : σ.set i (some v) = σ := by
  obtain ⟨hi, e⟩ := List.getElem?_eq_some_iff.mp h
  rw [← e]
  exact List.set_getElem_self hi
theorem rd_lt {i : Nat} {s : Sl} (h : rd ρ i = some s) : i < ρ.length := by
  unfold rd at h
  by_cases hi : i < ρ.length
  · exact hi
  · rw [List.getElem?_eq_none (by omega)] at h
    cases h
/-- a slot's own object is shared from now on -/
theorem EnvOk.share {i : Nat} {d : Dt} (e : EnvOk K S F ρ σ H) (h : rd ρ i = some (.own, d)) :
    ∃ v, σ[i]? = some (some v) ∧ EnvOk K S (setF F i []) (ρ.set i (some (.sh, d))) σ H ∧ Rep K (Wt S (setF F i [])) H d v := by
  obtain ⟨v, hv, r⟩ := e.slot i .own d h
  have e1 := e.drop i
  have sub : ∀ a, Wt S (setF F i []) a → Wt S F a := fun a z => by
    rcases z with z | ⟨j, z⟩
    · exact .inl z
    · by_cases hj : j = i
      · subst hj; rw [setF_same] at z; cases z
      · rw [setF_ne hj] at z; exact .inr ⟨j, z⟩
  have rr : Rep K (Wt S (setF F i [])) H d v := r.share rfl sub fun a ha z => by
    rcases z with z | ⟨j, z⟩
    · exact e.ext i a ha z
    · by_cases hj : j = i
      · subst hj; rw [setF_same] at z; cases z
      · rw [setF_ne hj] at z
        exact hj (e.dis j i a z ha)
  have e2 : EnvOk K S (setF F i []) (ρ.set i none) σ H := e1.weak fun _ => .inl
  have e3 := EnvOk.set (A := []) (i := i) (v := v) (fl := .sh) (d := d) (by rw [addS0]; exact e2) (.sh (by rw [addS0]; exact rr)) (by simpa using rd_lt h) (fun a h => by cases h)
  have q1 : setF (setF F i []) i [] = setF F i [] := funext fun j => by unfold setF; split <;> rfl
  rw [q1, List.set_set, set_self hv] at e3
  exact ⟨v, hv, e3, rr⟩
theorem setF_sub {i : Nat} : ∀ j, setF F i [] j = F j ∨ setF F i [] j = [] := fun j => by
  by_cases hj : j = i
  · subst hj; exact .inr setF_same
  · exact .inl (setF_ne hj)
theorem setF_fr {i : Nat} : Fr F H (setF F i []) H := ⟨fun _ _ e _ => e, fun j b h => by
  by_cases hj : j = i
  · subst hj; rw [setF_same] at h; cases h
  · rw [setF_ne hj] at h; exact .inl ⟨j, h⟩, fun _ h => h⟩
end
section
variable {X : Cx} {cl : CallS} {N : List Str} {sc st : Scope}
/-! ### names -/
theorem isVis_ok {x : Str} (h : isVis sc x = true) : L2.Vis sc x := by
  unfold isVis at h
  unfold L2.Vis
  split at h <;> simp_all
theorem isGlo_ok {x : Str} (h : isGlo sc x = true) : sc.names.lookup x = some .globalImplicit := by
  unfold isGlo at h
  split at h <;> simp_all
theorem notDun_ok {x : Str} (h : notDun x = true) : (x == ("__debug__" : Str)) = false ∧ (x == ("__classdict__" : Str)) = false ∧ x ≠ "__name__" := by
  unfold notDun at h
  simp only [Bool.and_eq_true, Bool.not_eq_true'] at h
  exact ⟨h.1.1, h.1.2, fun e => by rw [e] at h; simp at h⟩
theorem pe_nm (g : Gd cl N sc st X) {i : Nat} {e : Expr} (h : chkNm N sc i e = true) : PE X e (tVar i) := by
  unfold chkNm at h
  split at h
  · simp only [Bool.and_eq_true, decide_eq_true_eq] at h
    obtain ⟨⟨h1, h2⟩, h3⟩ := h
    obtain ⟨a, b, _⟩ := notDun_ok h3
    exact pe_var (by rw [g.eN]; exact h1) (by rw [g.es]; exact isVis_ok h2) a b
  · cases h
theorem w_v {i : Nat} : ∀ σ H Q, tD X.K (ev cl (.v i)) σ H Q → tVar i σ H Q := by
  rintro σ H Q ⟨S, F, ρ, r, e, h1, h2⟩
  simp only [ev] at h1
  split at h1
  · rename_i d hr
    cases h1
    obtain ⟨v, hv, q⟩ := e.slot i _ _ hr
    refine ⟨v, hv, h2 v H F [] ?_⟩
    generalize F i = A at q
    cases q with
    | sh q => exact (Go.refl e).shared q
  · rename_i d hr
    cases h1
    obtain ⟨v, hv, q⟩ := e.slot i _ _ hr
    exact ⟨v, hv, h2 v H F [] ⟨e.nil, .bo hr hv, Fr.refl F H, fun _ => .inl rfl, fun a h => (by cases h), fun a h => (by cases h)⟩⟩
  · cases h1
theorem w_sh {i : Nat} : ∀ σ H Q, tD X.K (ev cl (.sh i)) σ H Q → tVar i σ H Q := by
  rintro σ H Q ⟨S, F, ρ, r, e, h1, h2⟩
  simp only [ev] at h1
  split at h1
  · rename_i d hr
    cases h1
    obtain ⟨v, hv, q⟩ := e.slot i _ _ hr
    refine ⟨v, hv, h2 v H F [] ?_⟩
    generalize F i = A at q
    cases q with
    | sh q => exact (Go.refl e).shared q
  · rename_i d hr
    cases h1
    obtain ⟨v, hv, e', q⟩ := e.share hr
    exact ⟨v, hv, h2 v H _ [] (Go.shared ⟨e', setF_fr, setF_sub⟩ q)⟩
  · cases h1
theorem mv_post {S : Addr → Prop} {F : Fs} {ρ : En} {σ : L2.St} {H : Hp} {i : Nat} {fl : Fl} {d : Dt} (e : EnvOk X.K S F ρ σ H) (hr : rd ρ i = some (fl, d)) (hf : okFl fl = true) :
    ∃ v, σ[i]? = some (some v) ∧ PostE X.K S F σ H ((fl, d), ρ.set i none) v H (setF F i []) (F i) := by
  obtain ⟨v, hv, q⟩ := e.slot i _ _ hr
  refine ⟨v, hv, e.drop i, .slot hf (q.mono (fun a z => ?_) e.wt), setF_fr, setF_sub, fun a h => .inl ⟨i, h⟩, fun a h => e.ext i a h⟩
  rcases z with (z | z) | ⟨j, z⟩
  · exact .inl z
  · exact .inr ⟨i, z⟩
  · by_cases hj : j = i
    · subst hj; rw [setF_same] at z; cases z
    · rw [setF_ne hj] at z; exact .inr ⟨j, z⟩
theorem w_mv {i : Nat} : ∀ σ H Q, tD X.K (ev cl (.mv i)) σ H Q → tVar i σ H Q := by
  rintro σ H Q ⟨S, F, ρ, r, e, h1, h2⟩
  simp only [ev] at h1
  split at h1
  · rename_i d hr
    cases h1
    obtain ⟨v, hv, q⟩ := e.slot i _ _ hr
    refine ⟨v, hv, h2 v H F [] ?_⟩
    generalize F i = A at q
    cases q with
    | sh q => exact (Go.refl e).shared q
  · rename_i d hr
    cases h1
    obtain ⟨v, hv, q⟩ := mv_post e hr rfl
    exact ⟨v, hv, h2 v H _ _ q⟩
  · rename_i d hr
    cases h1
    obtain ⟨v, hv, q⟩ := mv_post e hr rfl
    exact ⟨v, hv, h2 v H _ _ q⟩
  · cases h1
theorem w_c {d : Dt} {v : V} {e : E} (he : ∀ ρ, ev cl e ρ = some ((.sh, d), ρ)) (hr : ∀ W H, Rep X.K W H d v) : ∀ σ H Q, tD X.K (ev cl e) σ H Q → tC v σ H Q := by
  rintro σ H Q ⟨S, F, ρ, r, e, h1, h2⟩
  rw [he] at h1
  cases h1
  exact h2 v H F [] ((Go.refl e).shared (hr _ _))

/-! ### argument lists, displays -/
def tL (K : PySem.W.Frag) (f : En → Option (List Dt × En)) : TA := fun σ H Q => ∃ S F ρ r, EnvOk K S F ρ σ H ∧ f ρ = some r ∧ ∀ vs H' F', Go K S F σ H F' r.2 H' → Reps K (Wt S F') H' r.1 vs → Q vs H'
theorem pa_w {es : List Expr} {t t' : TA} (h : PA X es t) (w : ∀ σ H Q, t' σ H Q → t σ H Q) : PA X es t' := ⟨fun pos pins s σ H Q I q => h.run pos pins s σ H Q I (w σ H Q q)⟩
theorem pa_nil_ : PA X [] (tL X.K (evL cl .nil)) := pa_w pa_nil fun σ H Q ⟨S, F, ρ, r, e, h1, h2⟩ => by
  simp only [evL] at h1
  cases h1
  exact h2 [] H F (Go.refl e) rfl
theorem pa_cons_ {a : E} {r : Es} {x : Expr} {xs : List Expr} (h1 : PE X x (tD X.K (ev cl a))) (h2 : PA X xs (tL X.K (evL cl r))) (hs : starEach (x :: xs) X.env = (false, eval x X.env) :: starEach xs X.env) : PA X (x :: xs) (tL X.K (evL cl (.cons a r))) :=
  pa_w (pa_cons (pe_k h1) h2 hs) fun σ H Q ⟨S, F, ρ, z, e, k1, k2⟩ => by
    simp only [evL] at k1
    obtain ⟨p, e1, k1⟩ := bindS k1
    obtain ⟨q, e2, rfl⟩ := mapS k1
    refine ⟨S, F, ρ, p, e, e1, fun v H1 F1 p1 => ⟨S, F1, p.2, q, p1.go.env, e2, fun vs H2 F2 g2 r2 => ?_⟩⟩
    exact k2 _ _ _ (p1.go.trans g2) (.cons (g2.rep p1.rep) r2)
theorem pa_star_ {a : E} {r : Es} {x : Expr} {xs : List Expr} {p : Pos} (h1 : PE X x (tD X.K (ev cl a))) (h2 : PA X xs (tL X.K (evL cl r))) : PA X (.Starred x p :: xs) (tL X.K (evL cl (.star a r))) :=
  pa_w (StX.pa_star h1 h2) fun σ H Q ⟨S, F, ρ, z, e, k1, k2⟩ => by
    simp only [evL] at k1
    obtain ⟨p, e1, k1⟩ := bindS k1
    obtain ⟨hr, k1⟩ := iteS k1
    obtain ⟨ds, e3, k1⟩ := bindS k1
    obtain ⟨q, e2, rfl⟩ := mapS k1
    refine ⟨S, F, ρ, p, e, e1, fun v H1 F1 A1 p1 => ?_⟩
    obtain ⟨a, ys, rfl, hy, q1⟩ := (p1.now hr).seq e3
    refine ⟨a, ys, rfl, hy, S, F1, p.2, q, p1.go.env, e2, fun vs H2 F2 g2 r2 => ?_⟩
    exact k2 _ _ _ (p1.go.trans g2) ((g2.reps q1).append r2)
theorem pe_tup_ {es : Es} {l : List Expr} {k : Nat} {pos : Pos} (h : PA X l (tL X.K (evL cl es))) : PE X (.Tuple l k pos) (tD X.K (ev cl (.tup es))) := pe_w (pe_tup h) fun σ H Q ⟨S, F, ρ, r, e, h1, h2⟩ => by
  simp only [ev] at h1
  obtain ⟨p, e1, h1⟩ := bindS h1
  by_cases hl : p.1.length ≤ lim
  · rw [if_pos hl] at h1
    cases h1
    refine ⟨S, F, ρ, p, e, e1, fun vs H1 F1 g1 r1 => ⟨?_, fun a ha => ?_⟩⟩
    · rw [← r1.length]; exact lim_line hl
    · obtain ⟨A, q⟩ := (NewV.tup ha r1).post g1
      exact h2 _ _ _ _ q
  · rw [if_neg hl] at h1
    cases h1
theorem pe_lst_ {es : Es} {l : List Expr} {pos : Pos} (h : PA X l (tL X.K (evL cl es))) : PE X (.List l pos) (tD X.K (ev cl (.lst es))) := pe_w (pe_lst h) fun σ H Q ⟨S, F, ρ, r, e, h1, h2⟩ => by
  simp only [ev] at h1
  obtain ⟨p, e1, h1⟩ := bindS h1
  by_cases hl : p.1.length ≤ lim
  · rw [if_pos hl] at h1
    cases h1
    refine ⟨S, F, ρ, p, e, e1, fun vs H1 F1 g1 r1 => ⟨?_, fun a ha => ?_⟩⟩
    · rw [← r1.length]; exact lim_line hl
    · obtain ⟨A, q⟩ := (NewV.lst ha r1).post g1
      exact h2 _ _ _ _ q
  · rw [if_neg hl] at h1
    cases h1

/-! ### operators -/
theorem okBo_pure {a b : E} (i : Nat) (h : okBo (.bo i) b = true) : ∀ ρ q, ev cl b ρ = some q → q.2 = ρ := fun ρ q e => pure_ev cl b ρ q h e
theorem pe_bin_ {o : Bo} {a b : E} {x y : Expr} {pos : Pos} (ha : PE X x (tD X.K (ev cl a))) (hb : PE X y (tD X.K (ev cl b))) : PE X (.BinOp x (boOp o) y pos) (tD X.K (ev cl (.bin o a b))) :=
  pe_w (pe_op (op_bin o) ha hb) (two_w (okb := fun fl => okBo fl b) (fun i h => okBo_pure (a := a) i h) fun ρ r h => by
    simp only [ev] at h
    obtain ⟨p, e1, h⟩ := bindS h
    obtain ⟨c1, h⟩ := iteS h
    obtain ⟨c1, c2⟩ := and2 c1
    obtain ⟨q, e2, h⟩ := bindS h
    obtain ⟨c3, h⟩ := iteS h
    obtain ⟨z, e3, rfl⟩ := mapS h
    exact ⟨p, q, z, e1, c1, c2, e2, c3, e3, rfl⟩)
theorem cmp_w {o : Co} {a b : E} : ∀ ρ r, ev cl (.cmp o a b) ρ = some r → ∃ p q z, ev cl a ρ = some p ∧ read? p.1.1 = true ∧ okBo p.1.1 b = true ∧ ev cl b p.2 = some q ∧ read? q.1.1 = true ∧ cmpS o p.1.2 q.1.2 = some z ∧ r = (z, q.2) := fun ρ r h => by
  simp only [ev] at h
  obtain ⟨p, e1, h⟩ := bindS h
  obtain ⟨c1, h⟩ := iteS h
  obtain ⟨c1, c2⟩ := and2 c1
  obtain ⟨q, e2, h⟩ := bindS h
  obtain ⟨c3, h⟩ := iteS h
  obtain ⟨z, e3, rfl⟩ := mapS h
  exact ⟨p, q, _, e1, c1, c2, e2, c3, by unfold cmpS; rw [e3]; rfl, rfl⟩
theorem chkE_set {a : E} {k : Nat} {es : List Expr} {p : Pos} : chkE N sc a (.Set es k p) = false := by cases a <;> first | rfl | (rename_i f _ _; cases f <;> rfl)
theorem chkE_star {a : E} {e : Expr} {p : Pos} : chkE N sc a (.Starred e p) = false := by cases a <;> first | rfl | (rename_i f _ _; cases f <;> rfl)
theorem chkE_slice {a : E} {x y z : Option Expr} {p : Pos} : chkE N sc a (.Slice x y z p) = false := by cases a <;> first | rfl | (rename_i f _ _; cases f <;> rfl)
theorem noBehind {a : E} {x : Expr} (h : chkE N sc a x = true) (op : CmpOp) : behindInMarks op x = false := by
  cases x <;> first | rfl | (rw [chkE_set] at h; cases h)
theorem noStar {a : E} {x : Expr} (h : chkE N sc a x = true) (xs : List Expr) (env : Env) : starEach (x :: xs) env = (false, eval x env) :: starEach xs env := by
  cases x <;> first | rfl | (rw [chkE_star] at h; cases h)
theorem plainIx {a : E} {x : Expr} (h : chkE N sc a x = true) : PlainIx x := by
  intro o i
  cases x <;> first | rfl | (rw [chkE_slice] at h; cases h)
theorem pe_cmp_ (g : Gd cl N sc st X) {o : Co} {a b : E} {x y : Expr} {pos : Pos} (hy : behindInMarks (coOp o) y = false) (ha : PE X x (tD X.K (ev cl a))) (hb : PE X y (tD X.K (ev cl b))) : PE X (.Compare x [coOp o] [y] pos) (tD X.K (ev cl (.cmp o a b))) :=
  pe_w (pe_cmpR (op_cmp (by have := g.room; omega) o) ha hb hy) (two_w (okb := fun fl => okBo fl b) (fun i h => okBo_pure (a := a) i h) cmp_w)
theorem pt_cmp_ (g : Gd cl N sc st X) {o : Co} {a b : E} {x y : Expr} {pos : Pos} (hy : behindInMarks (coOp o) y = false) (ha : PE X x (tD X.K (ev cl a))) (hb : PE X y (tD X.K (ev cl b))) : PT X (.Compare x [coOp o] [y] pos) (tT X.K (tv cl (.cmp o a b))) :=
  pt_w (pt_cmpR (op_cmp (by have := g.room; omega) o) ha hb hy) fun σ H Q ⟨S, F, ρ, r, e, h1, h2⟩ => by
    unfold tv at h1
    obtain ⟨p, e1, h1⟩ := bindS h1
    refine two_w (okb := fun fl => okBo fl b) (fun i h => okBo_pure (a := a) i h) cmp_w σ H _ ⟨S, F, ρ, p, e, e1, fun v H' F' A q => ?_⟩
    obtain ⟨_, q', z, _, _, _, _, _, ez, rfl⟩ := cmp_w ρ p e1
    obtain ⟨b', _, rfl⟩ := mapS ez
    cases h1
    have e3 : v = .bl b' := q.rep rfl
    exact ⟨b', e3, h2 H' F' q.go⟩
theorem pe_chain_ (g : Gd cl N sc st X) {o o' : Co} {a b c : E} {x y z : Expr} {pos : Pos} (hz : behindInMarks (coOp o') z = false) (ha : PE X x (tD X.K (ev cl a))) (hb : PE X y (tD X.K (ev cl b))) (hc : PE X z (tD X.K (ev cl c))) :
    PE X (.Compare x [coOp o, coOp o'] [y, z] pos) (tD X.K (ev cl (.chain o o' a b c))) ∧ PT X (.Compare x [coOp o, coOp o'] [y, z] pos) (tT X.K (tv cl (.chain o o' a b c))) := by
  have hu : X.A.units + 65 < cLine := by have := g.room; omega
  have key : ∀ σ H Q, tD X.K (ev cl (.chain o o' a b c)) σ H Q → tChain (rMk X.K (cmpS o)) (rMk X.K (cmpS o')) (tD X.K (ev cl a)) (tD X.K (ev cl b)) (tD X.K (ev cl c)) σ H Q := by
    rintro σ H Q ⟨S, F, ρ, r, e, h1, h2⟩
    simp only [ev] at h1
    obtain ⟨p, e1, h1⟩ := bindS h1
    obtain ⟨c1, h1⟩ := iteS h1
    obtain ⟨q, e2, h1⟩ := bindS h1
    obtain ⟨c2, h1⟩ := iteS h1
    obtain ⟨w, e3, h1⟩ := bindS h1
    refine ⟨S, F, ρ, p, e, e1, fun v H1 F1 A1 p1 => ⟨S, F1, p.2, q, p1.go.env, e2, fun u H2 F2 A2 p2 => ?_⟩⟩
    refine ⟨Wt S F2, p.1.2, q.1.2, (.sh, .bool w), (p2.go.rep (p1.rep c1)).rd, (p2.rep c2).rd, by unfold cmpS; rw [e3]; rfl, fun t H3 n => ?_⟩
    cases n with
    | old n =>
      have n' : t = .bl w := n
      subst n'
      refine ⟨w, rfl, ?_⟩
      cases w with
      | false =>
        cases h1
        exact h2 _ _ _ _ ((p1.go.trans p2.go).shared rfl)
      | true =>
        obtain ⟨r3, e4, h1⟩ := bindS h1
        obtain ⟨c3, h1⟩ := iteS h1
        obtain ⟨w', e5, rfl⟩ := mapS h1
        refine ⟨S, F2, q.2, r3, p2.go.env, e4, fun u3 H3 F3 A3 p3 => ?_⟩
        refine ⟨Wt S F3, q.1.2, r3.1.2, (.sh, .bool w'), (p3.go.rep (p2.rep c2)).rd, p3.now c3, by unfold cmpS; rw [e5]; rfl, fun t H4 n => ?_⟩
        cases n with
        | old n =>
          have n' : t = .bl w' := n
          subst n'
          exact h2 _ _ _ _ (((p1.go.trans p2.go).trans p3.go).shared rfl)
  have hm : lastMarks [coOp o, coOp o'] [y, z] = false := hz
  refine ⟨pe_w (pe_chain (op_cmp hu o) (op_cmp hu o') ha hb hc hm) key, pt_w (pt_chain (op_cmp hu o) (op_cmp hu o') ha hb hc hm) fun σ H Q ⟨S, F, ρ, r, e, h1, h2⟩ => ?_⟩
  unfold tv at h1
  obtain ⟨p, e1, h1⟩ := bindS h1
  refine key σ H _ ⟨S, F, ρ, p, e, e1, fun v H' F' A q => ?_⟩
  have hp : ∃ b', p.1 = (.sh, .bool b') := by
    simp only [ev] at e1
    obtain ⟨p1, _, h1⟩ := bindS e1
    obtain ⟨_, h1⟩ := iteS h1
    obtain ⟨q, _, h1⟩ := bindS h1
    obtain ⟨_, h1⟩ := iteS h1
    obtain ⟨w, _, h1⟩ := bindS h1
    split at h1
    · obtain ⟨r3, _, h1⟩ := bindS h1
      obtain ⟨_, h1⟩ := iteS h1
      obtain ⟨w', _, rfl⟩ := mapS h1
      exact ⟨_, rfl⟩
    · cases h1
      exact ⟨_, rfl⟩
  obtain ⟨b', hb'⟩ := hp
  obtain ⟨⟨fl, d⟩, ρ'⟩ := p
  cases hb'
  cases h1
  have e3 : v = .bl b' := q.rep rfl
  exact ⟨b', e3, h2 H' F' q.go⟩
theorem pe_idx_ (g : Gd cl N sc st X) {a b : E} {x y : Expr} {pos : Pos} (hy : PlainIx y) (ha : PE X x (tD X.K (ev cl a))) (hb : PE X y (tD X.K (ev cl b))) : PE X (.Subscript x y pos) (tD X.K (ev cl (.idx a b))) :=
  pe_w (pe_ix (ix_mini (by have := g.room; omega)) ha hb hy) (two_w (okb := fun fl => okBo fl b) (fun i h => okBo_pure (a := a) i h) fun ρ r h => by
    simp only [ev] at h
    obtain ⟨p, e1, h⟩ := bindS h
    obtain ⟨c1, h⟩ := iteS h
    obtain ⟨c1, c2⟩ := and2 c1
    obtain ⟨q, e2, h⟩ := bindS h
    obtain ⟨c3, h⟩ := iteS h
    obtain ⟨z, e3, rfl⟩ := mapS h
    exact ⟨p, q, _, e1, c1, c2, e2, c3, by unfold idxS; rw [e3]; rfl, rfl⟩)
theorem pe_neg_ {a : E} {x : Expr} {pos : Pos} (ha : PE X x (tD X.K (ev cl a))) : PE X (.UnaryOp .USub x pos) (tD X.K (ev cl (.neg a))) := pe_w (pe_un un_neg ha) fun σ H Q ⟨S, F, ρ, r, e, h1, h2⟩ => by
  simp only [ev] at h1
  obtain ⟨⟨⟨fl, d⟩, ρ'⟩, e1, h1⟩ := bindS h1
  cases d with
  | int i =>
    cases h1
    refine ⟨S, F, ρ, _, e, e1, fun v H1 F1 A1 p1 => ?_⟩
    have hv : v = .int i := by
      cases p1.res with
      | slot hf q =>
        cases q with
        | sh q => exact q
      | bo k1 k2 =>
        obtain ⟨v', hv', q⟩ := p1.env.slot _ _ _ k1
        rename_i j
        generalize F1 j = A' at q
        cases q
    exact ⟨i, hv, h2 _ _ _ _ (p1.go.shared rfl)⟩
  | _ => cases h1
/-! ### truth -/
theorem tru_V {W : Addr → Prop} {H : Hp} {d : Dt} {v : V} {b : Bool} (h : tru d = some b) (r : RdW X.K W H d v) : TruV X.K v H b := by
  cases d with
  | none => cases h; cases (show v = _ from r); rfl
  | bool c => cases h; cases (show v = _ from r); rfl
  | int i =>
    cases h
    cases (show v = _ from r)
    show decide (i ≠ 0) = (i != 0)
    by_cases hi : i = 0 <;> simp [hi]
  | str y =>
    cases (show v = _ from r)
    unfold tru at h
    by_cases hl : y.length ≤ lim
    · simp only [hl, if_true] at h
      cases h
      refine ⟨lim_line hl, ?_⟩
      by_cases h0 : y.length = 0 <;> simp [h0]
    · simp only [hl, if_false] at h
      cases h
  | list xs =>
    cases h
    obtain ⟨a, ys, rfl, q, rr⟩ := r
    refine .inl ⟨ys, SqL.of q, ?_⟩
    have := rr.length
    cases xs <;> cases ys <;> simp_all
  | tuple xs =>
    cases h
    have r' : Rep X.K W H (.tuple xs) v := r
    obtain ⟨a, ys, rfl, q, rr⟩ := r'.tup
    refine .inr (.inl ⟨ys, q, ?_⟩)
    have := rr.length
    cases xs <;> cases ys <;> simp_all
  | dict es => cases h
theorem pt_truth_ {a : E} {x : Expr} (he : ∀ whole, isTrue x X.env whole = (do let v ← whole; standAt x.pos; holding [v] (truthy v))) (ha : PE X x (tD X.K (ev cl a))) : PT X x (tT X.K (tv cl a)) :=
  pt_w (pt_truth ha he) fun σ H Q ⟨S, F, ρ, r, e, h1, h2⟩ => by
    unfold tv tst at h1
    obtain ⟨p, e1, h1⟩ := bindS h1
    obtain ⟨c1, h1⟩ := iteS h1
    obtain ⟨b, e2, rfl⟩ := mapS h1
    exact ⟨S, F, ρ, p, e, e1, fun v H1 F1 A1 p1 => ⟨b, tru_V e2 (p1.now c1), h2 _ _ p1.go⟩⟩
theorem pe_not_ {a : E} {x : Expr} {pos : Pos} (ha : PE X x (tD X.K (ev cl a))) : PE X (.UnaryOp .Not x pos) (tD X.K (ev cl (.not a))) := pe_w (pe_notT ha) fun σ H Q ⟨S, F, ρ, r, e, h1, h2⟩ => by
  simp only [ev] at h1
  obtain ⟨p, e1, h1⟩ := bindS h1
  obtain ⟨c1, h1⟩ := iteS h1
  obtain ⟨b, e2, rfl⟩ := mapS h1
  exact ⟨S, F, ρ, p, e, e1, fun v H1 F1 A1 p1 => ⟨b, tru_V e2 (p1.now c1), h2 _ _ _ _ (p1.go.shared rfl)⟩⟩
theorem pt_not_ {a : E} {x : Expr} {pos : Pos} (ha : PT X x (tT X.K (tv cl a))) : PT X (.UnaryOp .Not x pos) (tT X.K (tv cl (.not a))) := pt_w (pt_not ha) fun σ H Q ⟨S, F, ρ, r, e, h1, h2⟩ => by
  unfold tv at h1
  obtain ⟨p, e1, h1⟩ := bindS h1
  simp only [ev] at e1
  obtain ⟨p0, e0, e1⟩ := bindS e1
  obtain ⟨c1, e1⟩ := iteS e1
  obtain ⟨b, e2, rfl⟩ := mapS e1
  cases h1
  refine ⟨S, F, ρ, (b, p0.2), e, ?_, fun H' F' g => h2 H' F' g⟩
  unfold tv tst
  rw [e0]
  show (if read? p0.1.1 = true then (tru p0.1.2).map (fun b => (b, p0.2)) else none) = _
  rw [if_pos c1, e2]
  rfl
theorem pe_and_ {a b : E} {x y : Expr} {r : List Expr} {pos : Pos} (ha : PE X x (tD X.K (ev cl a))) (hb : PE X (.BoolOp .And (y :: r) pos) (tD X.K (ev cl b))) : PE X (.BoolOp .And (x :: y :: r) pos) (tD X.K (ev cl (.and a b))) :=
  pe_w (pe_andT (pe_k ha) (pe_k hb)) fun σ H Q ⟨S, F, ρ, r, e, h1, h2⟩ => by
    simp only [ev] at h1
    obtain ⟨p, e1, h1⟩ := bindS h1
    obtain ⟨t, e2, h1⟩ := bindS h1
    refine ⟨S, F, ρ, p, e, e1, fun v H1 F1 p1 => ⟨t, tru_V e2 p1.rep.rd, ?_⟩⟩
    cases t with
    | false =>
      cases h1
      exact h2 _ _ _ _ (p1.go.shared p1.rep)
    | true =>
      obtain ⟨q, e3, rfl⟩ := mapS h1
      exact ⟨S, F1, p.2, q, p1.go.env, e3, fun u H2 F2 p2 => h2 _ _ _ _ ((p1.go.trans p2.go).shared p2.rep)⟩
theorem pe_or_ {a b : E} {x y : Expr} {r : List Expr} {pos : Pos} (ha : PE X x (tD X.K (ev cl a))) (hb : PE X (.BoolOp .Or (y :: r) pos) (tD X.K (ev cl b))) : PE X (.BoolOp .Or (x :: y :: r) pos) (tD X.K (ev cl (.or a b))) :=
  pe_w (pe_orT (pe_k ha) (pe_k hb)) fun σ H Q ⟨S, F, ρ, r, e, h1, h2⟩ => by
    simp only [ev] at h1
    obtain ⟨p, e1, h1⟩ := bindS h1
    obtain ⟨t, e2, h1⟩ := bindS h1
    refine ⟨S, F, ρ, p, e, e1, fun v H1 F1 p1 => ⟨t, tru_V e2 p1.rep.rd, ?_⟩⟩
    cases t with
    | true =>
      cases h1
      exact h2 _ _ _ _ (p1.go.shared p1.rep)
    | false =>
      obtain ⟨q, e3, rfl⟩ := mapS h1
      exact ⟨S, F1, p.2, q, p1.go.env, e3, fun u H2 F2 p2 => h2 _ _ _ _ ((p1.go.trans p2.go).shared p2.rep)⟩
/-- a kept value's test -/
theorem tv_keep {a : E} {ρ : En} {p : Dt × En} {t : Bool} (e1 : keepS (ev cl a ρ) = some p) (e2 : tru p.1 = some t) : tv cl a ρ = some (t, p.2) := by
  obtain ⟨q, k1, k2, rfl⟩ := keepS_snd e1
  have k3 : read? q.1.1 = true := by cases h : q.1.1 <;> simp_all [keep?, read?]
  have e2' : tru q.1.2 = some t := e2
  unfold tv tst
  rw [k1]
  show (if read? q.1.1 = true then (tru q.1.2).map (fun b => (b, q.2)) else none) = _
  rw [if_pos k3, e2']
  rfl
theorem pt_and_ {a b : E} {x y : Expr} {r : List Expr} {pos : Pos} (ha : PT X x (tT X.K (tv cl a))) (hb : PW X (.BoolOp .And (y :: r) pos) (tT X.K (tv cl b))) : PW X (.BoolOp .And (x :: y :: r) pos) (tT X.K (tv cl (.and a b))) :=
  pw_w (pw_and ha hb) fun σ H Q ⟨S, F, ρ, r, e, h1, h2⟩ => by
    unfold tv at h1
    obtain ⟨z, e0, h1⟩ := bindS h1
    simp only [ev] at e0
    obtain ⟨p, e1, e0⟩ := bindS e0
    obtain ⟨t, e2, e0⟩ := bindS e0
    refine ⟨S, F, ρ, (t, p.2), e, tv_keep e1 e2, fun H1 F1 g1 => ?_⟩
    cases t with
    | false =>
      cases e0
      have h3 : r = (false, p.2) := by
        have h1' : ((tru p.1).map fun b => (b, p.2)) = some r := h1
        rw [e2] at h1'
        exact (Option.some.inj h1').symm
      subst h3
      exact h2 _ _ g1
    | true =>
      obtain ⟨q, e3, rfl⟩ := mapS e0
      have h1' : ((tru q.1).map fun b => (b, q.2)) = some r := h1
      obtain ⟨t', e4, rfl⟩ := mapS h1'
      exact ⟨S, F1, p.2, (t', q.2), g1.env, tv_keep e3 e4, fun H2 F2 g2 => h2 _ _ (g1.trans g2)⟩
theorem pt_or_ {a b : E} {x y : Expr} {r : List Expr} {pos : Pos} (ha : PT X x (tT X.K (tv cl a))) (hb : PW X (.BoolOp .Or (y :: r) pos) (tT X.K (tv cl b))) : PW X (.BoolOp .Or (x :: y :: r) pos) (tT X.K (tv cl (.or a b))) :=
  pw_w (pw_or ha hb) fun σ H Q ⟨S, F, ρ, r, e, h1, h2⟩ => by
    unfold tv at h1
    obtain ⟨z, e0, h1⟩ := bindS h1
    simp only [ev] at e0
    obtain ⟨p, e1, e0⟩ := bindS e0
    obtain ⟨t, e2, e0⟩ := bindS e0
    refine ⟨S, F, ρ, (t, p.2), e, tv_keep e1 e2, fun H1 F1 g1 => ?_⟩
    cases t with
    | true =>
      cases e0
      have h3 : r = (true, p.2) := by
        have h1' : ((tru p.1).map fun b => (b, p.2)) = some r := h1
        rw [e2] at h1'
        exact (Option.some.inj h1').symm
      subst h3
      exact h2 _ _ g1
    | false =>
      obtain ⟨q, e3, rfl⟩ := mapS e0
      have h1' : ((tru q.1).map fun b => (b, q.2)) = some r := h1
      obtain ⟨t', e4, rfl⟩ := mapS h1'
      exact ⟨S, F1, p.2, (t', q.2), g1.env, tv_keep e3 e4, fun H2 F2 g2 => h2 _ _ (g1.trans g2)⟩
theorem pe_ite_ {c a b : E} {x y z : Expr} {pos : Pos} (hc : PT X x (tT X.K (tv cl c))) (ha : PE X y (tD X.K (ev cl a))) (hb : PE X z (tD X.K (ev cl b))) : PE X (.IfExp x y z pos) (tD X.K (ev cl (.ite c a b))) :=
  pe_w (pe_ifExp hc ha hb) fun σ H Q ⟨S, F, ρ, r, e, h1, h2⟩ => by
    simp only [ev] at h1
    obtain ⟨p, e1, h1⟩ := bindS h1
    refine ⟨S, F, ρ, p, e, e1, fun H1 F1 g1 => ?_⟩
    have go : ∀ {q : Sl × En} {v : V} {H2 : Hp} {F2 : Fs} {A : List Addr}, PostE X.K S F1 σ H1 q v H2 F2 A → PostE X.K S F σ H q v H2 F2 A := fun p2 =>
      ⟨p2.env, p2.res, (g1.trans p2.go).fr, (g1.trans p2.go).sub, fun a ha => by
        rcases p2.new a ha with ⟨j, hj⟩ | hn
        · exact g1.fr.new j a hj
        · cases h : H a with
          | none => exact .inr rfl
          | some o => exact absurd hn (g1.fr.there a (by rw [h]; exact Option.some_ne_none _)), p2.apart⟩
    cases hp : p.1 with
    | true =>
      rw [hp, if_pos rfl] at h1
      obtain ⟨q, e2, h1⟩ := bindS h1
      obtain ⟨c2, h1⟩ := iteS h1
      cases h1
      exact ⟨S, F1, p.2, _, g1.env, e2, fun v H2 F2 A p2 => h2 _ _ _ _ (go p2)⟩
    | false =>
      rw [hp, if_neg Bool.false_ne_true] at h1
      obtain ⟨q, e2, h1⟩ := bindS h1
      obtain ⟨c2, h1⟩ := iteS h1
      cases h1
      exact ⟨S, F1, p.2, _, g1.env, e2, fun v H2 F2 A p2 => h2 _ _ _ _ (go p2)⟩
theorem pt_ite_ {c a b : E} {x y z : Expr} {pos : Pos} (hc : PT X x (tT X.K (tv cl c))) (ha : PT X y (tT X.K (tv cl a))) (hb : PT X z (tT X.K (tv cl b))) : PT X (.IfExp x y z pos) (tT X.K (tv cl (.ite c a b))) := by
  have base : PT X (.IfExp x y z pos) (fun σ H Q => tT X.K (tv cl c) σ H fun t H1 => if t = true then tT X.K (tv cl a) σ H1 Q else tT X.K (tv cl b) σ H1 Q) := by
    refine ⟨fun pins s σ H Q I h => ?_⟩
    refine isTrue_IfExp (thn (hc.run pins s σ H _ I h) fun t s1 ⟨H1, I1, q1⟩ => ?_)
    cases t with
    | true => exact ha.run pins s1 σ H1 Q I1 q1
    | false => exact hb.run pins s1 σ H1 Q I1 q1
  refine pt_w base fun σ H Q ⟨S, F, ρ, r, e, h1, h2⟩ => ?_
  unfold tv at h1
  obtain ⟨w, e0, h1⟩ := bindS h1
  simp only [ev] at e0
  obtain ⟨p, e1, e0⟩ := bindS e0
  refine ⟨S, F, ρ, p, e, e1, fun H1 F1 g1 => ?_⟩
  cases hp : p.1 with
  | true =>
    rw [hp, if_pos rfl] at e0
    obtain ⟨q, e2, e0⟩ := bindS e0
    obtain ⟨c2, e0⟩ := iteS e0
    cases e0
    exact ⟨S, F1, p.2, r, g1.env, by unfold tv; rw [e2]; exact h1, fun H2 F2 g2 => h2 _ _ (g1.trans g2)⟩
  | false =>
    rw [hp, if_neg Bool.false_ne_true] at e0
    obtain ⟨q, e2, e0⟩ := bindS e0
    obtain ⟨c2, e0⟩ := iteS e0
    cases e0
    exact ⟨S, F1, p.2, r, g1.env, by unfold tv; rw [e2]; exact h1, fun H2 F2 g2 => h2 _ _ (g1.trans g2)⟩
end
end Mini

end
section
set_option Elab.async false
set_option linter.all false
set_option maxRecDepth 100000
set_option maxHeartbeats 4000000
/-! Mini, part 11: cuts, built-in functions, calls, list methods. -/
namespace Mini
open PySem PySem.Spec PyProof.Rows L2
section
variable {X : Cx} {cl : CallS} {N : List Str} {sc st : Scope}
theorem PostE.int {K : PySem.W.Frag} {S : Addr → Prop} {F : Fs} {σ : L2.St} {H : Hp} {r : Sl × En} {v : V} {H1 : Hp} {F1 : Fs} {A : List Addr} (p : PostE K S F σ H r v H1 F1 A) {i : Int} (h : r.1.2 = .int i) : v = .int i := by
  obtain ⟨⟨fl, d⟩, ρ'⟩ := r
  have h' : d = .int i := h
  subst h'
  cases p.res with
  | slot hf q =>
    cases q with
    | sh q => exact q
  | bo k1 k2 =>
    obtain ⟨v', hv', q⟩ := p.env.slot _ _ _ k1
    rename_i j
    generalize F1 j = A' at q
    cases q
theorem pe_slL_ {a b : E} {x y : Expr} {p2 pos : Pos} (ha : PE X x (tD X.K (ev cl a))) (hb : PE X y (tD X.K (ev cl b))) : PE X (.Subscript x (.Slice (some y) none none p2) pos) (tD X.K (ev cl (.slL a b))) :=
  pe_w (pe_slice sl_mini ha (po_some hb) po_none) fun σ H Q ⟨S, F, ρ, r, e, h1, h2⟩ => by
    simp only [ev] at h1
    obtain ⟨p, e1, h1⟩ := bindS h1
    obtain ⟨c1, h1⟩ := iteS h1
    obtain ⟨c1, c2⟩ := and2 c1
    obtain ⟨q, e2, h1⟩ := bindS h1
    split at h1
    · rename_i i hi
      obtain ⟨z, e3, rfl⟩ := mapS h1
      refine ⟨S, F, ρ, p, e, e1, fun v H1 F1 A1 p1 => ⟨S, F1, p.2, q, p1.go.env, e2, fun w H2 F2 A2 p2 => ⟨i, p2.int hi, Wt S F2, p.1.2, z, p1.later c1 p2.go (fun j hj => ?_), e3, fun u H3 n => ?_⟩⟩⟩
      · rw [hj] at c2; exact pure_ev cl b _ _ c2 e2
      · obtain ⟨A, t⟩ := n.post (p1.go.trans p2.go)
        exact h2 _ _ _ _ t
    · cases h1
theorem pe_slU_ {a b : E} {x y : Expr} {p2 pos : Pos} (ha : PE X x (tD X.K (ev cl a))) (hb : PE X y (tD X.K (ev cl b))) : PE X (.Subscript x (.Slice none (some y) none p2) pos) (tD X.K (ev cl (.slU a b))) :=
  pe_w (pe_slice sl_mini ha po_none (po_some hb)) fun σ H Q ⟨S, F, ρ, r, e, h1, h2⟩ => by
    simp only [ev] at h1
    obtain ⟨p, e1, h1⟩ := bindS h1
    obtain ⟨c1, h1⟩ := iteS h1
    obtain ⟨c1, c2⟩ := and2 c1
    obtain ⟨q, e2, h1⟩ := bindS h1
    split at h1
    · rename_i i hi
      obtain ⟨z, e3, rfl⟩ := mapS h1
      refine ⟨S, F, ρ, p, e, e1, fun v H1 F1 A1 p1 => ⟨S, F1, p.2, q, p1.go.env, e2, fun w H2 F2 A2 p2 => ⟨i, p2.int hi, Wt S F2, p.1.2, z, p1.later c1 p2.go (fun j hj => ?_), e3, fun u H3 n => ?_⟩⟩⟩
      · rw [hj] at c2; exact pure_ev cl b _ _ c2 e2
      · obtain ⟨A, t⟩ := n.post (p1.go.trans p2.go)
        exact h2 _ _ _ _ t
    · cases h1
theorem pe_slLU_ {a b c : E} {x y y2 : Expr} {p2 pos : Pos} (ha : PE X x (tD X.K (ev cl a))) (hb : PE X y (tD X.K (ev cl b))) (hc : PE X y2 (tD X.K (ev cl c))) : PE X (.Subscript x (.Slice (some y) (some y2) none p2) pos) (tD X.K (ev cl (.slLU a b c))) :=
  pe_w (pe_slice sl_mini ha (po_some hb) (po_some hc)) fun σ H Q ⟨S, F, ρ, r, e, h1, h2⟩ => by
    simp only [ev] at h1
    obtain ⟨p, e1, h1⟩ := bindS h1
    obtain ⟨c1, h1⟩ := iteS h1
    obtain ⟨c1, c2, c3⟩ := and3 c1
    obtain ⟨q, e2, h1⟩ := bindS h1
    split at h1
    · rename_i i hi
      obtain ⟨q2, e4, h1⟩ := bindS h1
      split at h1
      · rename_i j hj
        obtain ⟨z, e3, rfl⟩ := mapS h1
        refine ⟨S, F, ρ, p, e, e1, fun v H1 F1 A1 p1 => ⟨S, F1, p.2, q, p1.go.env, e2, fun w H2 F2 A2 p2 => ⟨i, p2.int hi, S, F2, q.2, q2, p2.go.env, e4, fun w3 H3 F3 A3 p3 => ⟨j, p3.int hj, Wt S F3, p.1.2, z, p1.later c1 (p2.go.trans p3.go) (fun j hj => ?_), e3, fun u H4 n => ?_⟩⟩⟩⟩
        · rw [hj] at c2 c3
          rw [pure_ev cl c _ _ c3 e4]
          exact pure_ev cl b _ _ c2 e2
        · obtain ⟨A, t⟩ := n.post ((p1.go.trans p2.go).trans p3.go)
          exact h2 _ _ _ _ t
      · cases h1
    · cases h1
theorem pe_rev_ {a : E} {x : Expr} {k : Nat} {p1 p2 p3 pos : Pos} (ha : PE X x (tD X.K (ev cl a))) : PE X (.Subscript x (.Slice none none (some (.UnaryOp .USub (.Constant (.int 1) k p1) p2)) p3) pos) (tD X.K (ev cl (.rev a))) :=
  pe_w (pe_rev1 ha) fun σ H Q ⟨S, F, ρ, r, e, h1, h2⟩ => by
    simp only [ev] at h1
    obtain ⟨p, e1, h1⟩ := bindS h1
    obtain ⟨c1, h1⟩ := iteS h1
    obtain ⟨z, e3, rfl⟩ := mapS h1
    refine ⟨S, F, ρ, p, e, e1, fun v H1 F1 A1 p1 => ⟨Wt S F1, p.1.2, z, p1.now c1, e3, fun u H3 n => ?_⟩⟩
    obtain ⟨A, t⟩ := n.post p1.go
    exact h2 _ _ _ _ t

/-! ### built-in functions -/
theorem chkGl_ok {n : Str} {e : Expr} (h : chkGl sc n e = true) : ∃ p, e = .Name n p ∧ isGlo sc n = true ∧ notDun n = true := by
  unfold chkGl at h
  split at h
  · simp only [Bool.and_eq_true, decide_eq_true_eq] at h
    obtain ⟨⟨h1, h2⟩, h3⟩ := h
    subst h1
    exact ⟨_, rfl, h2, h3⟩
  · cases h
theorem Gd.gl (g : Gd cl N sc st X) {n : Str} (h : isGlo sc n = true) : L2.Gl X n := by
  unfold L2.Gl Env.kindOf
  rw [g.es]
  exact isGlo_ok h
theorem pe_call1 {f : Value} {r : List V → Hp → VK → Prop} {n : Str} {p pos : Pos} {e : Expr} {t : TA} (hf : (∃ id, f = .builtin id) ∨ ∃ T, f = .type T) (hc : CallR X f r) (hg : L2.Gl X n) (hm : X.mg n = none) (hv : bootBuiltins n = some f)
    {es : List Expr} (ha : PA X (e :: es) t) (hn : n ≠ "__name__") (hdb : (n == ("__debug__" : Str)) = false) (he : starEach (e :: es) X.env = (false, eval e X.env) :: starEach es X.env) (hpl : (backTo pos (starEach es X.env)).any (·.1) = false) :
    PE X (.Call (.Name n p) (e :: es) [] pos) (tCB r t) := by
  rcases hf with ⟨id, rfl⟩ | ⟨T, rfl⟩
  · exact pe_callB hc hg hm hv ha hn hdb he hpl
  · exact pe_callTy hc hg hm hv ha hn hdb he hpl
theorem b1F_kind (f : B1) : (∃ id, b1F f = .builtin id) ∨ ∃ T, b1F f = .type T := by cases f <;> first | exact .inl ⟨_, rfl⟩ | exact .inr ⟨_, rfl⟩
theorem boot_b1 (f : B1) : bootBuiltins (b1N f) = some (b1F f) := by cases f <;> decide +kernel
theorem free_b1 (f : B1) : b1N f ∈ freeN := by cases f <;> simp [b1N, freeN]
theorem pe_b1_ (g : Gd cl N sc st X) {f : B1} {a : E} {n x : Expr} {pos : Pos} (hn : chkGl sc (b1N f) n = true) (hx : ∀ xs env, starEach (x :: xs) env = (false, eval x env) :: starEach xs env) (ha : PE X x (tD X.K (ev cl a))) :
    PE X (.Call n [x] [] pos) (tD X.K (ev cl (.b1 f a))) := by
  obtain ⟨p, rfl, h1, h2⟩ := chkGl_ok hn
  obtain ⟨d1, d2, d3⟩ := notDun_ok h2
  refine pe_w (pe_call1 (b1F_kind f) (b1_mini g.calm g.guards (by have := g.room; omega) f) (g.gl h1) (g.free _ (free_b1 f)) (boot_b1 f) (pa_cons ha pa_nil (hx _ _)) d3 d1 (hx _ _) rfl) (one_w fun ρ r h => ?_)
  simp only [ev] at h
  obtain ⟨p, e1, h⟩ := bindS h
  obtain ⟨c1, h⟩ := iteS h
  obtain ⟨z, e3, rfl⟩ := mapS h
  exact ⟨p, z, e1, c1, e3, rfl⟩
theorem b2F_kind (f : B2) : (∃ id, b2F f = .builtin id) ∨ ∃ T, b2F f = .type T := by cases f <;> exact .inl ⟨_, rfl⟩
theorem boot_b2 (f : B2) : bootBuiltins (b2N f) = some (b2F f) := by cases f <;> decide +kernel
theorem free_b2 (f : B2) : b2N f ∈ freeN := by cases f <;> simp [b2N, freeN]
theorem pe_b2_ (g : Gd cl N sc st X) {f : B2} {a b : E} {n x y : Expr} {pos : Pos} (hn : chkGl sc (b2N f) n = true) (hx : ∀ xs env, starEach (x :: xs) env = (false, eval x env) :: starEach xs env) (hy : ∀ xs env, starEach (y :: xs) env = (false, eval y env) :: starEach xs env)
    (ha : PE X x (tD X.K (ev cl a))) (hb : PE X y (tD X.K (ev cl b))) : PE X (.Call n [x, y] [] pos) (tD X.K (ev cl (.b2 f a b))) := by
  obtain ⟨p, rfl, h1, h2⟩ := chkGl_ok hn
  obtain ⟨d1, d2, d3⟩ := notDun_ok h2
  refine pe_w (pe_call1 (b2F_kind f) (b2_mini g.calm f) (g.gl h1) (g.free _ (free_b2 f)) (boot_b2 f) (pa_cons (pe_k ha) (pa_cons (pe_k hb) pa_nil (hy _ _)) (hx _ _)) d3 d1 (hx _ _) (by rw [hy]; rfl)) fun σ H Q ⟨S, F, ρ, r, e, h1, h2⟩ => ?_
  simp only [ev] at h1
  obtain ⟨p, e1, h1⟩ := bindS h1
  obtain ⟨q, e2, h1⟩ := bindS h1
  obtain ⟨z, e3, rfl⟩ := mapS h1
  refine ⟨S, F, ρ, p, e, e1, fun v H1 F1 p1 => ⟨S, F1, p.2, q, p1.go.env, e2, fun w H2 F2 p2 => ⟨Wt S F2, p.1, q.1, z, v, w, rfl, (p2.go.rep p1.rep).rd, p2.rep.rd, e3, fun u H3 n => ?_⟩⟩⟩
  obtain ⟨A, t⟩ := n.post (p1.go.trans p2.go)
  exact h2 _ _ _ _ t

/-! ### list methods -/
theorem own_list {K : PySem.W.Frag} {S : Addr → Prop} {F : Fs} {ρ : En} {σ : L2.St} {H : Hp} {i : Nat} {ds : List Dt} (e : EnvOk K S F ρ σ H) (h : rd ρ i = some (.own, .list ds)) :
    ∃ a xs, σ[i]? = some (some (.ref a)) ∧ H a = some (.lst xs) ∧ Reps K (Wt S F) H ds xs ∧ F i = [a] := by
  obtain ⟨v, hv, q⟩ := e.slot i _ _ h
  generalize hA : F i = A at q
  cases q with
  | lst h1 h2 => exact ⟨_, _, hv, h1, h2, rfl⟩
theorem put_list {K : PySem.W.Frag} {S : Addr → Prop} {F : Fs} {ρ : En} {σ : L2.St} {H : Hp} {i : Nat} {ds : List Dt} {a : Addr} {xs : List V} (e : EnvOk K S F ρ σ H) (hi : i < ρ.length) (hv : σ[i]? = some (some (.ref a))) (hF : F i = [a])
    (r : Reps K (Wt S F) H ds xs) : EnvOk K S F (ρ.set i (some (.own, .list ds))) σ (upd H a (.lst xs)) ∧ Fr F H F (upd H a (.lst xs)) := by
  have ha : a ∈ F i := by rw [hF]; exact List.mem_singleton.mpr rfl
  refine ⟨e.put hi ha hv (.inl ⟨_, upd_same⟩) ?_, Fr.put ha⟩
  rw [hF]
  refine .lst upd_same (r.step (fun b o q n => ?_) fun b z => .inl z)
  rw [upd_ne fun z => n (.inr ⟨i, by rw [z]; exact ha⟩)]
  exact q
theorem attrNm {n : Expr} {i : Nat} (h : chkNm N sc i n = true) (m : Str) (env : Env) : attributeBase n m env (eval n env) = eval n env := by
  unfold chkNm at h
  split at h
  · rfl
  · cases h
theorem pe_app_ (g : Gd cl N sc st X) {i : Nat} {a : E} {n x : Expr} {ap cp : Pos} (hn : chkNm N sc i n = true) (hl : (ap.endLine == cp.line) = true) (hx : ∀ xs env, starEach (x :: xs) env = (false, eval x env) :: starEach xs env)
    (ha : PE X x (tD X.K (ev cl a))) : PE X (.Call (.Attribute n "append" ap) [x] [] cp) (tD X.K (ev cl (.app i a))) := by
  refine pe_w (pe_bm PySem.F.plainAttrs_list PySem.F.slot_list_append PySem.F.type_list_append mt_append (pe_nm g hn) (pa_cons (pe_k ha) pa_nil (hx _ _)) (attrNm hn _ _) (by rw [hx]; rfl) hl (hx _ _) rfl) fun σ H Q ⟨S, F, ρ, r, e, h1, h2⟩ => ?_
  simp only [ev] at h1
  split at h1
  · rename_i ds hr
    obtain ⟨p, e1, h1⟩ := bindS h1
    obtain ⟨l, xs, hv, hl, _, hF⟩ := own_list e hr
    refine ⟨_, hv, .inl ⟨rfl, _, SqL.of hl⟩, S, F, ρ, p, e, e1, fun v H1 F1 p1 => ?_⟩
    split at h1
    · rename_i ys hr1
      obtain ⟨l', zs, hv', hl', rs, hF'⟩ := own_list p1.go.env hr1
      rw [hv] at hv'
      cases hv'
      by_cases hlen : ys.length < lim
      · rw [if_pos hlen] at h1
        cases h1
        refine ⟨l, zs, v, rfl, rfl, hl', ?_, ?_⟩
        · rw [← rs.length]; exact Nat.lt_of_lt_of_le hlen (by decide)
        · obtain ⟨k1, k2⟩ := put_list p1.go.env (rd_lt hr1) hv hF' (rs.append (.cons p1.rep .nil))
          exact h2 _ _ _ _ (Go.shared ⟨k1, p1.go.fr.trans k2, p1.go.sub⟩ rfl)
      · rw [if_neg hlen] at h1
        cases h1
    · cases h1
  · cases h1
theorem pe_ext_ (g : Gd cl N sc st X) {i : Nat} {a : E} {n x : Expr} {ap cp : Pos} (hn : chkNm N sc i n = true) (hl : (ap.endLine == cp.line) = true) (hx : ∀ xs env, starEach (x :: xs) env = (false, eval x env) :: starEach xs env)
    (ha : PE X x (tD X.K (ev cl a))) : PE X (.Call (.Attribute n "extend" ap) [x] [] cp) (tD X.K (ev cl (.ext i a))) := by
  refine pe_w (pe_bm PySem.F.plainAttrs_list PySem.F.slot_list_extend PySem.F.type_list_extend mt_extend (pe_nm g hn) (pa_cons ha pa_nil (hx _ _)) (attrNm hn _ _) (by rw [hx]; rfl) hl (hx _ _) rfl) fun σ H Q ⟨S, F, ρ, r, e, h1, h2⟩ => ?_
  simp only [ev] at h1
  split at h1
  · rename_i ds hr
    obtain ⟨p, e1, h1⟩ := bindS h1
    obtain ⟨l, xs, hv, hl, _, hF⟩ := own_list e hr
    refine ⟨_, hv, .inl ⟨rfl, _, SqL.of hl⟩, S, F, ρ, p, e, e1, fun v H1 F1 A1 p1 => ?_⟩
    split at h1
    · rename_i ws ys hp hr1
      obtain ⟨l', zs, hv', hl', rs, hF'⟩ := own_list p1.go.env hr1
      rw [hv] at hv'
      cases hv'
      by_cases hlen : ys.length + ws.length ≤ lim
      · rw [if_pos hlen] at h1
        cases h1
        obtain ⟨⟨fl, d⟩, ρ'⟩ := p
        cases hp
        have hres := p1.res
        cases hres with
        | slot hf q =>
          cases q with
          | lst q1 q2 =>
            rename_i b us
            refine ⟨l, b, zs, us, rfl, rfl, hl', q1, ?_, ?_⟩
            · rw [← rs.length, ← q2.length]; exact lim_line hlen
            · have q3 : Reps X.K (Wt S F1) H1 ws us := q2.step (fun _ _ e _ => e) fun a z => .inl (z.imp .inl id)
              obtain ⟨k1, k2⟩ := put_list p1.go.env (rd_lt hr1) hv hF' (rs.append q3)
              exact h2 _ _ _ _ (Go.shared ⟨k1, p1.go.fr.trans k2, p1.go.sub⟩ rfl)
      · rw [if_neg hlen] at h1
        cases h1
    · cases h1
  · cases h1
theorem pe_pop_ (g : Gd cl N sc st X) {i : Nat} {n : Expr} {ap cp : Pos} (hn : chkNm N sc i n = true) (hl : (ap.endLine == cp.line) = true) : PE X (.Call (.Attribute n "pop" ap) [] [] cp) (tD X.K (ev cl (.pop i))) := by
  refine pe_w (pe_bm0 PySem.F.plainAttrs_list PySem.F.slot_list_pop PySem.F.type_list_pop mt_pop (pe_nm g hn) (attrNm hn _ _) hl) fun σ H Q ⟨S, F, ρ, r, e, h1, h2⟩ => ?_
  simp only [ev] at h1
  split at h1
  · rename_i ds hr
    split at h1
    · rename_i d hd
      cases h1
      obtain ⟨l, xs, hv, hl, rs, hF⟩ := own_list e hr
      obtain ⟨y, hy, ry⟩ := rs.get (i := ds.length - 1) (d := d) (by rw [← List.getLast?_eq_getElem?]; exact hd)
      rw [rs.length] at hy
      refine ⟨_, hv, .inl ⟨rfl, _, SqL.of hl⟩, l, xs, y, rfl, rfl, hl, hy, ?_⟩
      obtain ⟨k1, k2⟩ := put_list e (rd_lt hr) hv hF rs.dropLast
      have gg : Go X.K S F σ H F (ρ.set i (some (.own, .list ds.dropLast))) (upd H l (.lst xs.dropLast)) := ⟨k1, k2, fun _ => .inl rfl⟩
      exact h2 _ _ _ _ (gg.shared (gg.rep ry))
    · cases h1
  · cases h1
end
end Mini

end
section
set_option Elab.async false
set_option linter.all false
set_option maxRecDepth 100000
set_option maxHeartbeats 4000000
/-! Mini, part 12: calls of the program's own defs. -/
namespace Mini
open PySem PySem.Spec PyProof.Rows L2
section
variable (K : PySem.W.Frag) (W : Addr → Prop) (H : Hp) (σ : L2.St)
def ArgV : List (Dt ⊕ Nat) → List V → Prop
  | [], vs => vs = []
  | .inl d :: r, vs => ∃ v q, vs = v :: q ∧ Rep K W H d v ∧ ArgV r q
  | .inr i :: r, vs => ∃ v q, vs = v :: q ∧ σ[i]? = some (some v) ∧ ArgV r q
end
def tA (K : PySem.W.Frag) (f : En → Option ((List (Dt ⊕ Nat) × List Nat) × En)) : TA := fun σ H Q => ∃ S F ρ r, EnvOk K S F ρ σ H ∧ f ρ = some r ∧ ∀ vs H' F', Go K S F σ H F' r.2 H' → ArgV K (Wt S F') H' σ r.1.1 vs → Q vs H'
section
variable {K : PySem.W.Frag} {W W' : Addr → Prop} {H H' : Hp} {σ : L2.St}
theorem ArgV.step (h : ∀ b o, H b = some o → ¬ W b → H' b = some o) (h2 : ∀ a, W' a → W a ∨ H a = none) : ∀ {D : List (Dt ⊕ Nat)} {vs : List V}, ArgV K W H σ D vs → ArgV K W' H' σ D vs
  | [], _, r => r
  | .inl d :: D, _, ⟨v, q, e, r, rs⟩ => ⟨v, q, e, r.step h h2, ArgV.step h h2 rs⟩
  | .inr i :: D, _, ⟨v, q, e, r, rs⟩ => ⟨v, q, e, r, ArgV.step h h2 rs⟩
theorem ArgV.length : ∀ {D : List (Dt ⊕ Nat)} {vs : List V}, ArgV K W H σ D vs → D.length = vs.length
  | [], _, r => by rw [show _ = _ from r]; rfl
  | .inl d :: D, _, ⟨v, q, e, r, rs⟩ => by subst e; simp [ArgV.length rs]
  | .inr i :: D, _, ⟨v, q, e, r, rs⟩ => by subst e; simp [ArgV.length rs]
theorem ArgV.l : ∀ {D : List (Dt ⊕ Nat)} {vs : List V} {j : Nat} {d : Dt}, ArgV K W H σ D vs → D[j]? = some (.inl d) → ∃ v, vs[j]? = some v ∧ Rep K W H d v
  | [], _, _, _, _, h => by simp at h
  | .inl d :: D, _, 0, _, ⟨v, q, e, r, rs⟩, h => by subst e; simp at h; subst h; exact ⟨v, rfl, r⟩
  | .inr i :: D, _, 0, _, _, h => by simp at h
  | .inl d :: D, _, j + 1, _, ⟨v, q, e, r, rs⟩, h => by subst e; obtain ⟨w, h1, h2⟩ := ArgV.l (j := j) rs (by simpa using h); exact ⟨w, by simpa using h1, h2⟩
  | .inr i :: D, _, j + 1, _, ⟨v, q, e, r, rs⟩, h => by subst e; obtain ⟨w, h1, h2⟩ := ArgV.l (j := j) rs (by simpa using h); exact ⟨w, by simpa using h1, h2⟩
theorem ArgV.r : ∀ {D : List (Dt ⊕ Nat)} {vs : List V} {j i : Nat}, ArgV K W H σ D vs → D[j]? = some (.inr i) → ∃ v, vs[j]? = some v ∧ σ[i]? = some (some v)
  | [], _, _, _, _, h => by simp at h
  | .inr i :: D, _, 0, _, ⟨v, q, e, r, rs⟩, h => by subst e; simp at h; subst h; exact ⟨v, rfl, r⟩
  | .inl d :: D, _, 0, _, _, h => by simp at h
  | .inl d :: D, _, j + 1, _, ⟨v, q, e, r, rs⟩, h => by subst e; obtain ⟨w, h1, h2⟩ := ArgV.r (j := j) rs (by simpa using h); exact ⟨w, by simpa using h1, h2⟩
  | .inr i :: D, _, j + 1, _, ⟨v, q, e, r, rs⟩, h => by subst e; obtain ⟨w, h1, h2⟩ := ArgV.r (j := j) rs (by simpa using h); exact ⟨w, by simpa using h1, h2⟩
/-- the lent slots -/
def lent (D : List (Dt ⊕ Nat)) : List Nat := D.filterMap fun y => match y with | .inr i => some i | .inl _ => none
theorem lent_inj : ∀ {D : List (Dt ⊕ Nat)} {j k i : Nat}, (lent D).Nodup → D[j]? = some (.inr i) → D[k]? = some (.inr i) → j = k
  | [], _, _, _, _, h, _ => by simp at h
  | .inl d :: D, 0, _, _, _, h, _ => by simp at h
  | .inl d :: D, _ + 1, 0, _, _, _, h => by simp at h
  | .inl d :: D, j + 1, k + 1, _, n, h1, h2 => by rw [lent_inj (D := D) (j := j) (k := k) n (by simpa using h1) (by simpa using h2)]
  | .inr a :: D, 0, 0, _, _, _, _ => rfl
  | .inr a :: D, 0, k + 1, i, n, h1, h2 => by
    simp at h1
    subst h1
    have n' : (a :: lent D).Nodup := n
    exact absurd (List.mem_filterMap.mpr ⟨Sum.inr a, List.mem_of_getElem? (show D[k]? = some (Sum.inr a) by simpa using h2), rfl⟩ : a ∈ lent D) (List.nodup_cons.mp n').1
  | .inr a :: D, j + 1, 0, i, n, h1, h2 => by
    simp at h2
    subst h2
    have n' : (a :: lent D).Nodup := n
    exact absurd (List.mem_filterMap.mpr ⟨Sum.inr a, List.mem_of_getElem? (show D[j]? = some (Sum.inr a) by simpa using h1), rfl⟩ : a ∈ lent D) (List.nodup_cons.mp n').1
  | .inr a :: D, j + 1, k + 1, _, n, h1, h2 => by
    have n' : (a :: lent D).Nodup := n
    rw [lent_inj (D := D) (j := j) (k := k) (List.nodup_cons.mp n').2 (by simpa using h1) (by simpa using h2)]
theorem mem_lent {D : List (Dt ⊕ Nat)} {i : Nat} : i ∈ lent D ↔ ∃ j : Nat, D[j]? = some (Sum.inr i) := by
  unfold lent
  rw [List.mem_filterMap]
  constructor
  · rintro ⟨y, hy, e⟩
    cases y with
    | inl d => cases e
    | inr k =>
      cases e
      obtain ⟨j, hj⟩ := List.getElem?_of_mem hy
      exact ⟨j, hj⟩
  · rintro ⟨j, hj⟩
    exact ⟨.inr i, List.mem_of_getElem? hj, rfl⟩
/-- the slots behind the call -/
theorem putIo_ok {ρ : En} : ∀ {D : List (Dt ⊕ Nat)} {os : List Dt} {ρ' : En}, (lent D).Nodup → putIo ρ D os = some ρ' → D.length = os.length ∧ ρ'.length = ρ.length ∧ (∀ i, i ∉ lent D → rd ρ' i = rd ρ i) ∧
    ∀ (j i : Nat), D[j]? = some (Sum.inr i) → ∃ fl d o, rd ρ i = some (fl, d) ∧ os[j]? = some o ∧ rd ρ' i = some (fl, o)
  | [], [], _, _, h => by cases h; exact ⟨rfl, rfl, fun _ _ => rfl, fun j i h => (by simp at h)⟩
  | [], _ :: _, _, _, h => by cases h
  | .inl _ :: D, o :: os, ρ', n, h => by
    obtain ⟨a, b, c, d⟩ := putIo_ok (D := D) n (show putIo ρ D os = some ρ' from h)
    refine ⟨by simp [a], b, c, fun j i hj => ?_⟩
    cases j with
    | zero => simp at hj
    | succ j =>
      obtain ⟨fl, d', o', h1, h2, h3⟩ := d j i (by simpa using hj)
      exact ⟨fl, d', o', h1, by simpa using h2, h3⟩
  | .inl _ :: D, [], _, _, h => by cases h
  | .inr i :: D, [], _, _, h => by cases h
  | .inr i :: D, o :: os, ρ', n, h => by
    have n' : (i :: lent D).Nodup := n
    obtain ⟨n1, n2⟩ := List.nodup_cons.mp n'
    simp only [putIo] at h
    split at h
    · rename_i fl d0 hr
      obtain ⟨ρ1, h1, rfl⟩ := mapS h
      obtain ⟨a, b, c, d⟩ := putIo_ok (D := D) n2 h1
      have hi : i < ρ1.length := by
        rw [b]
        unfold rd at hr
        by_cases hi : i < ρ.length
        · exact hi
        · rw [List.getElem?_eq_none (by omega)] at hr; cases hr
      have hne : ∀ k, k ≠ i → rd (ρ1.set i (some (fl, o))) k = rd ρ1 k := fun k hk => by
        unfold rd
        rw [List.getElem?_set_ne (Ne.symm hk)]
      refine ⟨by simp [a], by simp [b], fun k hk => ?_, fun j k hj => ?_⟩
      · have hk' : k ∉ i :: lent D := hk
        simp only [List.mem_cons, not_or] at hk'
        rw [hne k hk'.1]
        exact c k hk'.2
      · cases j with
        | zero =>
          simp at hj
          subst hj
          refine ⟨fl, d0, o, hr, rfl, ?_⟩
          unfold rd
          rw [List.getElem?_set_self hi]
          rfl
        | succ j =>
          obtain ⟨fl', d', o', h1, h2, h3⟩ := d j k (by simpa using hj)
          have hk : k ≠ i := fun e => by
            subst e
            exact n1 (mem_lent.mpr ⟨j, by simpa using hj⟩)
          exact ⟨fl', d', o', h1, by simpa using h2, by rw [hne k hk]; exact h3⟩
    · cases h
end
section
variable {X : Cx} {cl : CallS} {N : List Str} {sc st : Scope}
/-- the lent list that evA tells is the one of its arguments -/
theorem evA_lent : ∀ (es : Es) (ρ : En) (r : (List (Dt ⊕ Nat) × List Nat) × En), evA cl es ρ = some r → r.1.2 = lent r.1.1
  | .nil, ρ, r, h => by simp only [evA] at h; cases h; rfl
  | .star _ _, ρ, r, h => by simp only [evA] at h; cases h
  | .cons e es, ρ, r, h => by
    by_cases hio : ∃ i, e = .io i
    · obtain ⟨i, rfl⟩ := hio
      simp only [evA] at h
      obtain ⟨_, h⟩ := iteS h
      obtain ⟨q, h1, rfl⟩ := mapS h
      show i :: q.1.2 = i :: lent q.1.1
      rw [evA_lent es ρ q h1]
    · have h' : (keepS (ev cl e ρ)).bind (fun x => (evA cl es x.2).map fun q => ((.inl x.1 :: q.1.1, q.1.2), q.2)) = some r := by
        rw [← h]
        cases e <;> first | rfl | exact absurd ⟨_, rfl⟩ hio
      obtain ⟨x, h1, h2⟩ := bindS h'
      obtain ⟨q, h3, rfl⟩ := mapS h2
      show q.1.2 = lent q.1.1
      exact evA_lent es x.2 q h3
theorem paA_nil : PA X [] (tA X.K (evA cl .nil)) := pa_w pa_nil fun σ H Q ⟨S, F, ρ, r, e, h1, h2⟩ => by
  simp only [evA] at h1
  cases h1
  exact h2 [] H F (Go.refl e) rfl
theorem paA_cons {a : E} {r : Es} {x : Expr} {xs : List Expr} (hio : ∀ i, a ≠ .io i) (h1 : PE X x (tD X.K (ev cl a))) (h2 : PA X xs (tA X.K (evA cl r))) (hs : starEach (x :: xs) X.env = (false, eval x X.env) :: starEach xs X.env) : PA X (x :: xs) (tA X.K (evA cl (.cons a r))) :=
  pa_w (pa_cons (pe_k h1) h2 hs) fun σ H Q ⟨S, F, ρ, z, e, k1, k2⟩ => by
    have k1' : (keepS (ev cl a ρ)).bind (fun x => (evA cl r x.2).map fun q => ((.inl x.1 :: q.1.1, q.1.2), q.2)) = some z := by
      rw [← k1]
      cases a <;> first | rfl | exact absurd rfl (hio _)
    obtain ⟨p, e1, k1⟩ := bindS k1'
    obtain ⟨q, e2, rfl⟩ := mapS k1
    refine ⟨S, F, ρ, p, e, e1, fun v H1 F1 p1 => ⟨S, F1, p.2, q, p1.go.env, e2, fun vs H2 F2 g2 r2 => ?_⟩⟩
    exact k2 _ _ _ (p1.go.trans g2) ⟨v, vs, rfl, g2.rep p1.rep, r2⟩
theorem paA_io (g : Gd cl N sc st X) {i : Nat} {r : Es} {x : Expr} {xs : List Expr} (hn : chkNm N sc i x = true) (h2 : PA X xs (tA X.K (evA cl r))) : PA X (x :: xs) (tA X.K (evA cl (.cons (.io i) r))) := by
  have hs : starEach (x :: xs) X.env = (false, eval x X.env) :: starEach xs X.env := by
    unfold chkNm at hn
    split at hn
    · rfl
    · cases hn
  refine pa_w (pa_cons (pe_nm g hn) h2 hs) fun σ H Q ⟨S, F, ρ, z, e, k1, k2⟩ => ?_
  simp only [evA] at k1
  obtain ⟨hs, k1⟩ := iteS k1
  obtain ⟨q, e2, rfl⟩ := mapS k1
  obtain ⟨⟨fl, d⟩, hr⟩ := Option.isSome_iff_exists.mp hs
  obtain ⟨v, hv, _⟩ := e.slot i fl d hr
  exact ⟨v, hv, S, F, ρ, q, e, e2, fun vs H2 F2 g2 r2 => k2 _ _ _ g2 ⟨v, vs, rfl, hv, r2⟩⟩
theorem pe_call_ (g : Gd cl N sc st X) {f : Str} {as : Es} {n x : Expr} {xs : List Expr} {pos : Pos} (hn : chkGl sc f n = true) (ha : PA X (x :: xs) (tA X.K (evA cl as))) (he : starEach (x :: xs) X.env = (false, eval x X.env) :: starEach xs X.env) (hpl : (backTo pos (starEach xs X.env)).any (·.1) = false) :
    PE X (.Call n (x :: xs) [] pos) (tD X.K (ev cl (.call f as))) := by
  obtain ⟨p, rfl, h1, h2⟩ := chkGl_ok hn
  obtain ⟨d1, d2, d3⟩ := notDun_ok h2
  refine ⟨fun pins s σ H Q I h => ?_⟩
  obtain ⟨S, F, ρ, r, e, k1, k2⟩ := h
  simp only [ev] at k1
  obtain ⟨⟨⟨D, ls⟩, ρ1⟩, e1, k1⟩ := bindS k1
  obtain ⟨c1, k1⟩ := iteS k1
  obtain ⟨c1, c2⟩ := and2 c1
  obtain ⟨q, e2, k1⟩ := bindS k1
  obtain ⟨c3, k1⟩ := iteS k1
  obtain ⟨ρ2, e3, rfl⟩ := mapS k1
  have hls : ls = lent D := evA_lent as ρ _ e1
  subst hls
  have nd : (lent D).Nodup := of_decide_eq_true c2
  have hl : ∀ i ∈ lent D, ∃ fl d, rd ρ1 i = some (fl, d) ∧ (fl = .own ∨ fl = .src) := fun i hi => by
    have h := of_decide_eq_true (List.all_eq_true.mp c1 i hi)
    cases hr : rd ρ1 i with
    | none => simp [hr] at h
    | some sl =>
      refine ⟨sl.1, sl.2, rfl, ?_⟩
      simpa [hr] using h
  obtain ⟨k, a, fd, ps, f1, f2, f3, f4, f5⟩ := g.fns f _ q e2
  refine (pe_callG f5 f4 g.guards (g.gl h1) f1 f2 f3 ha d1 he hpl).run pins s σ H Q I ⟨S, F, ρ, _, e, e1, fun vs H1 F1 g1 av => ?_⟩
  have av0 : ArgV X.K (Wt S F1) H1 σ D vs := av
  have g1' : Go X.K S F σ H F1 ρ1 H1 := g1
  obtain ⟨o1, o2, o3, o4⟩ := putIo_ok nd e3
  -- what the callee must not touch, what it may change
  let Fc : Fs := fun j => match D[j]? with
    | some (Sum.inr i) => F1 i
    | _ => []
  let Sc : Addr → Prop := fun b => S b ∨ ∃ i, i ∉ lent D ∧ b ∈ F1 i
  have fcr : ∀ j i, D[j]? = some (Sum.inr i) → Fc j = F1 i := fun j i h => by simp only [Fc, h]
  have fcl : ∀ j, (∀ i, D[j]? ≠ some (Sum.inr i)) → Fc j = [] := fun j h => by
    cases hd : D[j]? with
    | none => simp only [Fc, hd]
    | some y =>
      cases y with
      | inl y => simp only [Fc, hd]
      | inr i => exact absurd hd (h i)
  have fci : ∀ j b, b ∈ Fc j → ∃ i, D[j]? = some (Sum.inr i) ∧ b ∈ F1 i := fun j b hb => by
    by_cases h : ∃ i, D[j]? = some (Sum.inr i)
    · obtain ⟨i, hi⟩ := h
      exact ⟨i, hi, by rw [fcr j i hi] at hb; exact hb⟩
    · rw [fcl j fun i hi => h ⟨i, hi⟩] at hb; cases hb
  have wt : ∀ b, Wt Sc Fc b → Wt S F1 b := fun b h => by
    rcases h with (h | ⟨i, _, h⟩) | ⟨j, h⟩
    · exact .inl h
    · exact .inr ⟨i, h⟩
    · obtain ⟨i, _, hb⟩ := fci j b h
      exact .inr ⟨i, hb⟩
  have wt' : ∀ b, Wt S F1 b → Wt Sc Fc b := fun b h => by
    rcases h with h | ⟨i, h⟩
    · exact .inl (.inl h)
    · by_cases hi : i ∈ lent D
      · obtain ⟨j, hj⟩ := mem_lent.mp hi
        exact .inr ⟨j, by rw [fcr j i hj]; exact h⟩
      · exact .inl (.inr ⟨i, hi, h⟩)
  have asl : ∀ j y, D[j]? = some y → (D.map (argSl ρ1))[j]? = some (argSl ρ1 y) := fun j y h => by rw [List.getElem?_map, h]; rfl
  have env : EnvOk X.K Sc Fc ((D.map (argSl ρ1)).map some) (vs.map some) H1 := by
    refine ⟨by simp [av0.length], fun j fl d h => ?_, fun j h => ?_, fun j k b hj hk => ?_, fun j b hb hS => ?_, fun b hb => g1'.env.wt b (wt b (.inl hb))⟩
    · have h' : ((D.map (argSl ρ1)).map some)[j]?.join = some (fl, d) := h
      rw [List.getElem?_map, List.getElem?_map] at h'
      cases hy : D[j]? with
      | none => rw [hy] at h'; cases h'
      | some y =>
        rw [hy] at h'
        have h'' : argSl ρ1 y = (fl, d) := Option.some.inj h'
        cases y with
        | inl d' =>
          cases h''
          obtain ⟨v, hv, rv⟩ := av0.l hy
          refine ⟨v, by rw [List.getElem?_map, hv]; rfl, ?_⟩
          rw [fcl j fun i hi => by rw [hy] at hi; cases hi]
          exact .sh (rv.step (fun _ _ e _ => e) fun b z => .inl (wt b z))
        | inr i =>
          obtain ⟨fl', d', hr, hf⟩ := hl i (mem_lent.mpr ⟨j, hy⟩)
          have h3 : (fl', d') = (fl, d) := by
            rw [← h'']
            simp [argSl, hr]
          cases h3
          obtain ⟨v, hv, hv'⟩ := av0.r hy
          obtain ⟨v2, hv2, rr⟩ := g1'.env.slot i _ _ hr
          rw [hv'] at hv2
          cases hv2
          refine ⟨v, by rw [List.getElem?_map, hv]; rfl, ?_⟩
          rw [fcr j i hy]
          exact rr.mono wt g1'.env.wt
    · have h' : ((D.map (argSl ρ1)).map some)[j]?.join = none := h
      rw [List.getElem?_map, List.getElem?_map] at h'
      refine fcl j fun i hi => ?_
      rw [hi] at h'
      cases h'
    · obtain ⟨i, hi, hb⟩ := fci j b hj
      obtain ⟨i', hi', hb'⟩ := fci k b hk
      have : i = i' := g1'.env.dis i i' b hb hb'
      subst this
      exact lent_inj nd hi hi'
    · obtain ⟨i, hi, hb'⟩ := fci j b hb
      rcases hS with h | ⟨i', n', h⟩
      · exact g1'.env.ext i b hb' h
      · have : i = i' := g1'.env.dis i i' b hb' h
        subst this
        exact n' (mem_lent.mpr ⟨j, hi⟩)
  show spD X.K (cl f) (vs ++ []) H1 Q E0
  rw [List.append_nil]
  refine ⟨Sc, Fc, _, q, env, e2, fun v H2 A po => ?_⟩
  have alive : ∀ b, H1 b = none → H b = none := fun b hb => by
    cases h : H b with
    | none => rfl
    | some o => exact absurd hb (g1'.fr.there b (by rw [h]; exact Option.some_ne_none _))
  have kp : ∀ b o, H1 b = some o → ¬ Wt S F1 b → H2 b = some o := fun b o hb hw => po.keep b o hb fun j hj => hw (wt b (.inr ⟨j, hj⟩))
  have grow : ∀ b, Wt (addS S A) F1 b → Wt S F1 b ∨ H1 b = none := fun b h => by
    rcases h with (h | h) | h
    · exact .inl (.inl h)
    · exact .inr (po.new b h)
    · exact .inl (.inr h)
  have wtA : ∀ b, Wt (addS S A) F1 b → Wt (addS Sc A) Fc b := fun b h => by
    rcases h with (h | h) | h
    · exact (wt' b (.inl h)).imp .inl id
    · exact .inl (.inr h)
    · exact (wt' b (.inr h)).imp .inl id
  have nA : ∀ b ∈ A, ¬ Wt S F1 b := fun b hb z => (g1'.env.wt b z).ne (po.new b hb)
  have same : ∀ i, i ∉ lent D → ∀ b ∈ F1 i, H2 b = H1 b := fun i hi b hb => by
    have m := g1'.env.wt b (.inr ⟨i, hb⟩)
    cases h : H1 b with
    | none => exact absurd h m.ne
    | some o =>
      refine po.keep b o h fun j hj => ?_
      obtain ⟨i', hi', hb'⟩ := fci j b hj
      have : i = i' := g1'.env.dis i i' b hb hb'
      subst this
      exact hi (mem_lent.mpr ⟨j, hi'⟩)
  have env2 : EnvOk X.K (addS S A) F1 ρ2 σ H2 := by
    refine ⟨by rw [o2]; exact g1'.env.len, fun i fl d h => ?_, fun i h => ?_, g1'.env.dis, fun i b hb hS => ?_, fun b hb => ?_⟩
    · by_cases hi : i ∈ lent D
      · obtain ⟨j, hj⟩ := mem_lent.mp hi
        obtain ⟨fl', d', o, h4, h5, h6⟩ := o4 j i hj
        rw [h] at h6
        cases h6
        obtain ⟨fl2, d2, h7, h8⟩ := hl i hi
        rw [h4] at h7
        cases h7
        obtain ⟨w, hw, hw'⟩ := av0.r hj
        have hout : rd (outEn (D.map (argSl ρ1)) q.2) j = some (fl, d) := by
          have ea : argSl ρ1 (Sum.inr i) = (fl, d') := by simp [argSl, h4]
          unfold rd outEn
          rw [List.getElem?_zipWith, asl j _ hj, h5, ea]
          rcases h8 with rfl | rfl <;> rfl
        obtain ⟨w2, hw2, rr⟩ := po.env.slot j _ _ hout
        rw [List.getElem?_map, hw] at hw2
        cases hw2
        refine ⟨w, hw', ?_⟩
        rw [fcr j i hj] at rr
        exact rr.mono wtA po.env.wt
      · rw [o3 i hi] at h
        obtain ⟨w, hw, rr⟩ := g1'.env.slot i _ _ h
        exact ⟨w, hw, rr.step kp grow (same i hi) g1'.env.wt⟩
    · by_cases hi : i ∈ lent D
      · obtain ⟨j, hj⟩ := mem_lent.mp hi
        obtain ⟨fl', d', o, h4, h5, h6⟩ := o4 j i hj
        rw [h] at h6
        cases h6
      · rw [o3 i hi] at h
        exact g1'.env.emp i h
    · rcases hS with hS | hS
      · exact g1'.env.ext i b hb hS
      · exact nA b hS (.inr ⟨i, hb⟩)
    · rcases hb with hb | hb
      · exact po.env.wf b (.inl (.inl hb))
      · exact po.env.wf b (.inr hb)
  refine k2 v H2 F1 A ⟨env2, .slot c3 (po.res.mono wtA po.env.wt), ⟨fun b o hb hn => ?_, g1'.fr.new, fun b hb => po.there b (g1'.fr.there b hb)⟩, g1'.sub, fun b hb => .inr (alive b (po.new b hb)), fun b hb z => nA b hb (.inl z)⟩
  have hb1 := g1'.fr.keep b o hb hn
  refine po.keep b o hb1 fun j hj => ?_
  obtain ⟨i, _, hb'⟩ := fci j b hj
  rcases g1'.fr.new i b hb' with ⟨j', z⟩ | z
  · exact hn j' z
  · rw [z] at hb; cases hb
end
end Mini

end
section
set_option Elab.async false
set_option linter.all false
set_option maxRecDepth 100000
set_option maxHeartbeats 4000000
/-! Mini, part 13: what loops go over. -/
namespace Mini
open PySem PySem.Spec PyProof.Rows L2
/-- J walks over the data, from the heap H0 on, while what lies outside W0 stays -/
structure WK (K : PySem.W.Frag) (W0 : Addr → Prop) (H0 : Hp) (J : L2.It) (ds : List Dt) : Prop where
  goes : ∀ i H, i < ds.length → (∀ b o, H0 b = some o → ¬ W0 b → H b = some o) → J.go i H
  stops : ∀ H, (∀ b o, H0 b = some o → ¬ W0 b → H b = some o) → J.stop ds.length H
  yields : ∀ i H x H', i < ds.length → (∀ b o, H0 b = some o → ¬ W0 b → H b = some o) → J.yld i H x H' →
    ∃ d, ds[i]? = some d ∧ Same H H' ∧ ∀ W', (∀ a, W' a → W0 a ∨ H0 a = none) → (∀ a, W' a → H a ≠ none) → Rep K W' H' d x
def tI (K : PySem.W.Frag) (f : En → Option (List Dt × En)) : TI := fun σ H R => ∃ S F ρ r, EnvOk K S F ρ σ H ∧ f ρ = some r ∧ ∀ J H' F', Go K S F σ H F' r.2 H' → WK K (Wt S F') H' J r.1 → R J H'
theorem upTo_get {lo c : Int} {n i : Nat} (h : i < n) : (upTo lo c n)[i]? = some (.int (lo + (i : Nat) * c)) := by
  unfold upTo
  rw [List.getElem?_map, List.getElem?_range h]
  rfl
theorem upTo_len {lo c : Int} {n : Nat} : (upTo lo c n).length = n := by unfold upTo; simp
section
variable {K : PySem.W.Frag} {W0 : Addr → Prop} {H0 : Hp} {ds es : List Dt} {xs ys : List V} {a b : Addr}
/-- a list that stays -/
def StL (K : PySem.W.Frag) (W0 : Addr → Prop) (H0 : Hp) (a : Addr) (xs : List V) : Prop := H0 a = some (.lst xs) ∧ ¬ W0 a
def StT (K : PySem.W.Frag) (W0 : Addr → Prop) (H0 : Hp) (a : Addr) (xs : List V) : Prop := (H0 a = some (.tup xs) ∧ ¬ W0 a) ∨ TpK K a xs
theorem StL.sq (h : StL K W0 H0 a xs) {H : Hp} (k : ∀ b o, H0 b = some o → ¬ W0 b → H b = some o) : SqL K H a xs := SqL.of (k _ _ h.1 h.2)
theorem tpk_sq (h : TpK K a xs) {H : Hp} : SqT K H a xs := by
  obtain ⟨o, its, n, h1, h2, h3, h4, h5⟩ := h
  exact .inr ⟨o, its, n, h1, h2, h3, h4, h5⟩
theorem StT.sq (h : StT K W0 H0 a xs) {H : Hp} (k : ∀ b o, H0 b = some o → ¬ W0 b → H b = some o) : SqT K H a xs := by
  rcases h with ⟨h, hw⟩ | h
  · exact SqT.of (k _ _ h hw)
  · exact tpk_sq h
theorem Reps.getR (r : Reps K W0 H0 ds xs) {i : Nat} {x : V} (h : xs[i]? = some x) : ∃ d, ds[i]? = some d ∧ Rep K W0 H0 d x := by
  have hi : i < ds.length := by
    rw [r.length]
    exact (List.getElem?_eq_some_iff.mp h).1
  obtain ⟨y, hy, q⟩ := r.get (List.getElem?_eq_getElem hi)
  rw [h] at hy
  cases hy
  exact ⟨_, List.getElem?_eq_getElem hi, q⟩
theorem same_refl {H : Hp} : Same H H := fun _ _ e => e
theorem wk_list (h : StL K W0 H0 a xs) (r : Reps K W0 H0 ds xs) : WK K W0 H0 (Itl K a) ds where
  goes := fun i H hi k => ⟨xs, xs[i]'(by rw [← r.length]; exact hi), h.sq k, by simp⟩
  stops := fun H k => ⟨xs, h.sq k, by rw [r.length]; exact Nat.le_refl _⟩
  yields := fun i H x H' hi k y => by
    obtain ⟨rfl, y⟩ := y
    obtain ⟨d, hd, q⟩ := r.getR (y xs (h.sq k))
    exact ⟨d, hd, same_refl, fun W' w1 _ => q.step k w1⟩
theorem wk_tup (h : StT K W0 H0 a xs) (r : Reps K W0 H0 ds xs) : WK K W0 H0 (Itt K a) ds where
  goes := fun i H hi k => ⟨xs, xs[i]'(by rw [← r.length]; exact hi), h.sq k, by simp⟩
  stops := fun H k => ⟨xs, h.sq k, by rw [r.length]; exact Nat.le_refl _⟩
  yields := fun i H x H' hi k y => by
    obtain ⟨rfl, y⟩ := y
    obtain ⟨d, hd, q⟩ := r.getR (y xs (h.sq k))
    exact ⟨d, hd, same_refl, fun W' w1 _ => q.step k w1⟩
theorem wk_range {lo : Int} {n : Nat} : WK K W0 H0 (Itr lo n) (upTo lo 1 n) where
  goes := fun i H hi k => by rw [upTo_len] at hi; exact hi
  stops := fun H k => by rw [upTo_len]; exact Nat.le_refl _
  yields := fun i H x H' hi k y => by
    obtain ⟨rfl, rfl⟩ := y
    rw [upTo_len] at hi
    refine ⟨_, upTo_get hi, same_refl, fun W' w1 _ => ?_⟩
    rw [Int.mul_one]
    rfl
theorem wk_rangeC {lo c : Int} {n : Nat} : WK K W0 H0 (Itc lo c n) (upTo lo c n) where
  goes := fun i H hi k => by rw [upTo_len] at hi; exact hi
  stops := fun H k => by rw [upTo_len]; exact Nat.le_refl _
  yields := fun i H x H' hi k y => by
    obtain ⟨rfl, rfl⟩ := y
    rw [upTo_len] at hi
    exact ⟨_, upTo_get hi, same_refl, fun W' w1 _ => rfl⟩
/-- a new pair at T -/
theorem pair_new {W' : Addr → Prop} {H : Hp} {T : Addr} {d e : Dt} {x y : V} (hT : H T = none) (w : ∀ a, W' a → H a ≠ none) (hx : Rep K W' H d x) (hy : Rep K W' H e y) : Rep K W' (upd H T (.tup [x, y])) (.tuple [d, e]) (.ref T) := by
  have st : ∀ b o, H b = some o → ¬ W' b → upd H T (.tup [x, y]) b = some o := fun b o z _ => (same_upd hT) b o z
  exact ⟨T, [x, y], rfl, .inl ⟨upd_same, fun z => w T z hT⟩, .cons (hx.step st fun a z => .inl z) (.cons (hy.step st fun a z => .inl z) .nil)⟩
theorem enumD_get {i : Nat} {d : Dt} (h : ds[i]? = some d) : (enumD ds)[i]? = some (.tuple [.int (i : Nat), d]) := by
  unfold enumD
  rw [List.getElem?_map, List.getElem?_zipIdx, h]
  simp
theorem enumD_len : (enumD ds).length = ds.length := by unfold enumD; simp
theorem wk_enumL (h : StL K W0 H0 a xs) (r : Reps K W0 H0 ds xs) : WK K W0 H0 (Ite K a) (enumD ds) where
  goes := fun i H hi k => ⟨xs, xs[i]'(by rw [← r.length]; rw [enumD_len] at hi; exact hi), h.sq k, by simp⟩
  stops := fun H k => ⟨xs, h.sq k, by rw [enumD_len, r.length]; exact Nat.le_refl _⟩
  yields := fun i H v H' hi k y => by
    obtain ⟨T, x, rfl, hT, rfl, y⟩ := y
    obtain ⟨d, hd, q⟩ := r.getR (y xs (h.sq k))
    exact ⟨_, enumD_get hd, same_upd hT, fun W' w1 w2 => pair_new hT w2 rfl (q.step k w1)⟩
/-- the tuple at a, its items counted -/
def IteT (K : PySem.W.Frag) (a : Addr) : L2.It :=
  ⟨fun i H => ∃ (xs : List V) (x : V), SqT K H a xs ∧ xs[i]? = some x, fun i H v H' => ∃ T x, v = .ref T ∧ H T = none ∧ H' = upd H T (.tup [.int (i : Nat), x]) ∧ ∀ xs, SqT K H a xs → xs[i]? = some x,
   fun i H => ∃ xs : List V, SqT K H a xs ∧ i = xs.length⟩
theorem wk_enumT (h : StT K W0 H0 a xs) (r : Reps K W0 H0 ds xs) : WK K W0 H0 (IteT K a) (enumD ds) where
  goes := fun i H hi k => ⟨xs, xs[i]'(by rw [← r.length]; rw [enumD_len] at hi; exact hi), h.sq k, by simp⟩
  stops := fun H k => ⟨xs, h.sq k, by rw [enumD_len, r.length]⟩
  yields := fun i H v H' hi k y => by
    obtain ⟨T, x, rfl, hT, rfl, y⟩ := y
    obtain ⟨d, hd, q⟩ := r.getR (y xs (h.sq k))
    exact ⟨_, enumD_get hd, same_upd hT, fun W' w1 w2 => pair_new hT w2 rfl (q.step k w1)⟩
theorem zipD_get {i : Nat} {d e : Dt} (h : ds[i]? = some d) (h2 : es[i]? = some e) : (zipD ds es)[i]? = some (.tuple [d, e]) := by
  unfold zipD
  rw [List.getElem?_map, show (ds.zip es)[i]? = some (d, e) from List.getElem?_zip_eq_some.mpr ⟨h, h2⟩]
  rfl
theorem zipD_len : (zipD ds es).length = min ds.length es.length := by unfold zipD; simp
theorem wk_zipL (h : StL K W0 H0 a xs) (h2 : StL K W0 H0 b ys) (r : Reps K W0 H0 ds xs) (r2 : Reps K W0 H0 es ys) : WK K W0 H0 (Itz K a b) (zipD ds es) where
  goes := fun i H hi k => by
    rw [zipD_len, r.length, r2.length] at hi
    exact ⟨xs, ys, xs[i]'(by omega), ys[i]'(by omega), h.sq k, h2.sq k, by simp, by simp⟩
  stops := fun H k => ⟨xs, ys, h.sq k, h2.sq k, by rw [zipD_len, r.length, r2.length]; omega⟩
  yields := fun i H v H' hi k y => by
    obtain ⟨T, x, z, rfl, hT, rfl, y1, y2⟩ := y
    obtain ⟨d, hd, q⟩ := r.getR (y1 xs (h.sq k))
    obtain ⟨e, he, q2⟩ := r2.getR (y2 ys (h2.sq k))
    exact ⟨_, zipD_get hd he, same_upd hT, fun W' w1 w2 => pair_new hT w2 (q.step k w1) (q2.step k w1)⟩
theorem wk_zipT (h : StT K W0 H0 a xs) (h2 : StT K W0 H0 b ys) (r : Reps K W0 H0 ds xs) (r2 : Reps K W0 H0 es ys) : WK K W0 H0 (RZ.ItzT K a b) (zipD ds es) where
  goes := fun i H hi k => by
    rw [zipD_len, r.length, r2.length] at hi
    exact ⟨xs, ys, xs[i]'(by omega), ys[i]'(by omega), h.sq k, h2.sq k, by simp, by simp⟩
  stops := fun H k => ⟨xs, ys, h.sq k, h2.sq k, by rw [zipD_len, r.length, r2.length]; omega⟩
  yields := fun i H v H' hi k y => by
    obtain ⟨T, x, z, rfl, hT, rfl, y1, y2⟩ := y
    obtain ⟨d, hd, q⟩ := r.getR (y1 xs (h.sq k))
    obtain ⟨e, he, q2⟩ := r2.getR (y2 ys (h2.sq k))
    exact ⟨_, zipD_get hd he, same_upd hT, fun W' w1 w2 => pair_new hT w2 (q.step k w1) (q2.step k w1)⟩
end

/-! ### enumerate over a tuple -/
set_option maxHeartbeats 1000000 in
theorem meets_enumT (l : Addr) (items : Array Value) :
    Meets (Builtin.«enumerate.__new__» ⟨[.type "enumerate", .ref l], []⟩) (fun _ R s => s.heap.IsTuple l items ∧ R (.ok (.ret (.ref (s.heap.push { cls := .type "tuple_iterator", data := .fields #[.ref l, .int 0 0] }).objs.size)))
      { s with heap := (s.heap.push { cls := .type "tuple_iterator", data := .fields #[.ref l, .int 0 0] }).push { cls := .type "enumerate", data := .fields #[.none, .bool false, .ref s.heap.objs.size, rawInt 0, .none, .none] } }) :=
  .of_wp fun prog w A R s h => by
    obtain ⟨hp, g, d, tk, os⟩ := s
    obtain ⟨h1, h⟩ := h
    have subE := sub_enumerate
    have q1 : ∀ {A' : Around} {E : Value → Shared → Prop} {Q : Value → Shared → Prop}, Q (.ref hp.objs.size) ⟨hp.push { cls := .type "tuple_iterator", data := .fields #[.ref l, .int 0 0] }, g, d, tk, os⟩ → wpAny (model prog w) A' (pyIter (.ref l)) Q E ⟨hp, g, d, tk, os⟩ :=
      fun {A' E Q} q => wpAny_pyIter_tuple (s := ⟨hp, g, d, tk, os⟩) h1 q
    wp_walk using q1
    refine wpAny_stack_any fun st => wpAny_pure ?_
    split
    · rename_i c _ _ _ _ _
      cases (c == Value.type "enumerate") <;> (wp_walk using q1; exact ⟨_, rfl, h⟩)
    · wp_walk using q1
      exact ⟨_, rfl, h⟩
section
variable {prog : Program} {w : World} {A : Around} {E : Value → Shared → Prop} {s : Shared}
theorem call_enumT {l : Addr} {items : Array Value} {Q : Value → Shared → Prop} (hL : s.heap.IsTuple l items)
    (h : ∀ h', IsEnum h' (s.heap.objs.size + 1) s.heap.objs.size 0 .none → h'.IsTupleIter s.heap.objs.size l 0 → (∀ b o, s.heap.get? b = some o → h'.get? b = some o) → Q (.ref (s.heap.objs.size + 1)) { s with heap := h' }) :
    wpAny (model prog w) A (call (.type "enumerate") [.ref l]) Q E s := by
  refine callType_new F.called_enumerate (by decide) (F.typeCall_enumerate_1 _) (F.newCall_enumerate_1 _) (fun obj => F.args_object_init_2 obj _) F.entry_enumerate_new (meets_enumT l items) ⟨hL, ?_⟩
  generalize hit : ({ cls := .type "tuple_iterator", data := .fields #[.ref l, .int 0 0] } : Obj) = oit
  have hz : (s.heap.push oit).objs.size = s.heap.objs.size + 1 := Heap.size_push ..
  show _ ∧ _
  rw [hz]
  have he : IsEnum ((s.heap.push oit).push { cls := .type "enumerate", data := .fields #[.none, .bool false, .ref s.heap.objs.size, rawInt 0, .none, .none] }) (s.heap.objs.size + 1) s.heap.objs.size 0 .none := by
    have z := Heap.get?_push_size (s.heap.push oit) (o := { cls := .type "enumerate", data := .fields #[.none, .bool false, .ref s.heap.objs.size, rawInt 0, .none, .none] }) rfl
    rwa [hz] at z
  refine ⟨⟨_, he, rfl⟩, h _ he ⟨oit, Heap.get?_push_of_some _ (Heap.get?_push_size _ (by rw [← hit]; rfl)), by rw [← hit], by rw [← hit]; rfl⟩ fun b o x => Heap.get?_push_of_some _ (Heap.get?_push_of_some _ x)⟩
end
theorem ne_tup_it {h : Heap} {a it : Addr} {items : Array Value} {i : Nat} {b : Addr} (p : h.IsTuple a items) (q : h.IsTupleIter it b i) : a ≠ it := by
  intro e
  subst e
  obtain ⟨o, ho, hc, _⟩ := p
  obtain ⟨o', ho', hc', _⟩ := q
  rw [ho] at ho'
  cases ho'
  rw [hc] at hc'
  exact absurd hc' (by decide)
theorem ne_tup_en {h : Heap} {a e it : Addr} {items : Array Value} {i : Int} {old : Value} (p : h.IsTuple a items) (q : IsEnum h e it i old) : e ≠ a := by
  intro z
  subst z
  obtain ⟨o, ho, hc, _⟩ := p
  have q' := q
  unfold IsEnum at q'
  rw [ho] at q'
  cases q'
  have hc' : Value.type "enumerate" = Value.type "tuple" := hc
  exact absurd hc' (by decide)
theorem turn_enT {P : Program} {w : World} {K : PySem.W.Frag} {elts : List Expr} {kk : Nat} {tpos : Pos} (a e it : Addr) :
    Turn P w K (.Tuple elts kk tpos) (IteT K a) [e, it] e (fun i h => (∃ old, IsEnum h e it ((i : Nat) : Int) old) ∧ h.IsTupleIter it a i ∧ e ≠ it) where
  mem := by simp
  obj := fun i h st b hb => by
    obtain ⟨⟨old, he⟩, ⟨o, ho, hc, hd⟩, _⟩ := st
    have e' : b = e ∨ b = it := by simpa using hb
    rcases e' with z | z
    · subst z; exact ⟨_, he, fun v q => (by cases q)⟩
    · exact ⟨o, by rw [z]; exact ho, fun v q => by rw [hd] at q; cases q⟩
  keep := fun i h h' st k => ⟨st.1.imp fun old he => k e (by simp) _ he, st.2.1.at fun o q => k it (by simp) o q, st.2.2⟩
  item := by
    intro X hP hw hK hc i pins s σ H E I hf st hg
    subst hP hw hK
    obtain ⟨⟨old, he⟩, hit, hne⟩ := st
    obtain ⟨xs, x, hq, hx⟩ := hg
    obtain ⟨its, rv, p, hz⟩ := I.tuple hq
    obtain ⟨u, hu, ru⟩ := rv.get hx
    have p' : s.heap.IsTuple a its.toArray := p
    have hel : e < s.heap.objs.size := Heap.lt_size he
    have hil : it < s.heap.objs.size := by obtain ⟨_, q, _⟩ := hit; exact Heap.lt_size q
    have hlt : i < its.toArray.size := by rw [List.size_toArray]; exact (List.getElem?_eq_some_iff.mp hu).1
    have D := Draws.tuple (prog := X.prog) (w := X.w) (A := X.A.in1) (I.ok.hd hc) it a (ne_tup_it p' hit) its.toArray
    have hef : e ∉ [it, a] := by simp [hne, ne_tup_en p' he]
    refine wpAny_pyNext_enum_itemD D he ⟨hit, p'⟩ hlt hne hef fun u' h' tk hP ho hst hT hsz hk => ?_
    have eu : u' = u := by
      have z : its.toArray[i]? = some u' := hP
      have z2 : its.toArray[i]? = some u := by simpa using hu
      rw [z2] at z
      exact (Option.some.inj z).symm
    subst eu
    refine ⟨_, rfl, wpAny_letOwnedTupleGo_enum (s := { s with heap := h', toks := tk + 1 }) ho fun h'' he' sb => ?_⟩
    have hT2 : h''.get? s.heap.objs.size = some { cls := .type "tuple", data := .seq #[.int i tk, u'] } := (sb.2 _ (Nat.ne_of_gt hel)).trans hT
    have new : ObjOk X.prog X.w (upd H s.heap.objs.size (.tup [.int (i : Nat), x])) h'' s.heap.objs.size (.tup [.int (i : Nat), x]) := ⟨by show 2 ≤ sizeLine; decide, [.int i tk, u'], .cons ⟨_, rfl⟩ (.cons ru .nil), ⟨_, hT2, rfl, _, rfl⟩⟩
    have I1 : Inv X pins σ (upd H s.heap.objs.size (.tup [.int (i : Nat), x])) { s with heap := h'', toks := tk + 1 } :=
      I.turnedNew (ch := [e, it]) (fun b ob hb q => by
        have nb : b ≠ e ∧ b ≠ it := by simpa using hb
        exact (sb.2 b nb.1).trans (hk b ob nb.1 nb.2 q)) hf (Nat.le_refl _) new
    refine ⟨.ref s.heap.objs.size, _, I1, rfl, ⟨_, x, rfl, I.hok.fresh (Nat.le_refl _), rfl, fun ys hy => by rw [I.tuple_inj hy hq]; exact hx⟩, ⟨⟨u', ?_⟩, hst.1.at fun o q => (sb.2 it (Ne.symm hne)).trans q, hne⟩, fun b hb => ?_⟩
    · have e1 : ((i + 1 : Nat) : Int) = (i : Int) + 1 := by omega
      rw [e1]
      exact he'
    · have hb' : b < s.heap.objs.size := by
        have e' : b = e ∨ b = it := by simpa using hb
        rcases e' with z | z <;> rw [z] <;> assumption
      rw [upd_ne (Nat.ne_of_lt hb')]
      exact (hf b hb).1
  done := by
    intro X hP hw hK hc i pins s σ H E I hf st hg
    subst hP hw hK
    obtain ⟨⟨old, he⟩, hit, hne⟩ := st
    obtain ⟨xs, hq, hx⟩ := hg
    obtain ⟨its, rv, p, hz⟩ := I.tuple hq
    have p' : s.heap.IsTuple a its.toArray := p
    obtain ⟨f0, f1, f2, f3, f4, f5⟩ := hf it (by simp)
    have D := Draws.tuple (prog := X.prog) (w := X.w) (A := X.A.in1) (I.ok.hd hc) it a (ne_tup_it p' hit) its.toArray
    have hi : i = its.toArray.size := by rw [List.size_toArray, ← rv.length, hx]
    refine wpAny_pyNext_enum_endD D he (by rw [← hi]; exact ⟨hit, p'⟩) fun h' eb => ⟨rfl, I.turned (t' := s.toks) (fun b o hb q => eb b o hb q) f0 f1 f3 f4 f5⟩
  self := fun A i s Q E st h => by
    obtain ⟨⟨old, he⟩, _⟩ := st
    exact wpAny_pyIter_enum he h
def iEnT (K : PySem.W.Frag) (ta : TA) : TI := fun σ H R => ta σ H fun vs H1 => ∃ a xs, vs = [.ref a] ∧ SqT K H1 a xs ∧ R (IteT K a) H1
theorem pi_enT {X : Cx} {e : Expr} {ta : TA} {p pos tpos : Pos} {elts : List Expr} {kk : Nat} (hg : Gl X "enumerate") (hm : X.mg "enumerate" = none) (ha : PA X [e] ta) (hs : starEach [e] X.env = [(false, eval e X.env)]) :
    PI X (.Tuple elts kk tpos) (.Call (.Name "enumerate" p) [e] [] pos) (iEnT X.K ta) := by
  refine ⟨fun pins s σ H R I h => Call_ (ld_blt I hg hm boot_enumerate (PyProof.Rows.callWith_type1 (thn (ha.run pos pins s σ H _ I h) fun us s1 ⟨vs, H1, I1, r1, q1⟩ => ?_) hs rfl))⟩
  obtain ⟨a, xs, ex, hq, q⟩ := q1
  subst ex
  cases r1 with
  | cons r rr =>
    cases rr
    cases r
    obtain ⟨its, rv, p', hz⟩ := I1.tuple hq
    refine call_enumT (show s1.heap.IsTuple a its.toArray from p') fun h' he hit hk => wpAny_pyIter_enum he ?_
    have I2 : Inv X pins σ H1 { s1 with heap := h' } := I1.kept (t' := s1.toks) hk
    refine ⟨s1.heap.objs.size + 1, [s1.heap.objs.size + 1, s1.heap.objs.size], _, _, H1, rfl, I2, turn_enT a (s1.heap.objs.size + 1) s1.heap.objs.size, ⟨⟨.none, he⟩, hit, Nat.succ_ne_self _⟩, fun b hb => ?_, q⟩
    have hle : s1.heap.objs.size ≤ b := by
      have e' : b = s1.heap.objs.size + 1 ∨ b = s1.heap.objs.size := by simpa using hb
      rcases e' with z | z <;> (rw [z]; first | exact Nat.le_succ _ | exact Nat.le_refl _)
    exact I1.fpOk hle (I1.hok.fresh hle)
end Mini

end
section
set_option Elab.async false
set_option linter.all false
set_option maxRecDepth 100000
set_option maxHeartbeats 4000000
/-! Mini, part 14: slots forgotten and given back; targets; what loops go over, as rules. -/
namespace Mini
open PySem PySem.Spec PyProof.Rows L2
section
variable {K : PySem.W.Frag} {S S' : Addr → Prop} {F F' : Fs} {ρ ρ' ρ0 : En} {σ σ' : L2.St} {H H' : Hp}
theorem rd_set_ne {i j : Nat} {x : Option Sl} (h : j ≠ i) : rd (ρ.set i x) j = rd ρ j := by
  unfold rd
  rw [List.getElem?_set_ne (Ne.symm h)]
theorem rd_set_none {i : Nat} : rd (ρ.set i none) i = none := by
  unfold rd
  by_cases h : i < ρ.length
  · rw [List.getElem?_set_self h]; rfl
  · rw [List.getElem?_eq_none (by simp; omega)]; rfl
theorem EnvOk.wipe1 (e : EnvOk K S F ρ σ H) {i : Nat} (h : F i = []) : EnvOk K S F (ρ.set i none) (σ.set i none) H := by
  refine ⟨by simp [e.len], fun j fl d q => ?_, fun j q => ?_, e.dis, e.ext, e.wf⟩
  · by_cases hj : j = i
    · subst hj; rw [rd_set_none] at q; cases q
    · rw [rd_set_ne hj] at q
      rw [List.getElem?_set_ne (Ne.symm hj)]
      exact e.slot j fl d q
  · by_cases hj : j = i
    · subst hj; exact h
    · rw [rd_set_ne hj] at q
      exact e.emp j q
theorem EnvOk.wipe (e : EnvOk K S F ρ σ H) : ∀ is : List Nat, (∀ i ∈ is, F i = []) → EnvOk K S F (Mini.wipe ρ is) (L2.wipe σ is) H
  | [], _ => e
  | i :: is, h => (EnvOk.wipe e is fun j hj => h j (List.mem_cons_of_mem _ hj)).wipe1 (h i (List.mem_cons_self ..))
theorem back_len : ∀ is : List Nat, (back ρ ρ' is).length = ρ'.length
  | [] => rfl
  | i :: is => by show ((back ρ ρ' is).set i _).length = _; rw [List.length_set, back_len is]
theorem back_in (hl : ρ.length = ρ'.length) {j : Nat} : ∀ {is : List Nat}, j ∈ is → rd (back ρ ρ' is) j = rd ρ j
  | i :: is, h => by
    by_cases hj : j = i
    · subst hj
      show ((back ρ ρ' is).set j (rd ρ j))[j]?.join = _
      by_cases hlt : j < ρ'.length
      · rw [List.getElem?_set_self (by rw [back_len]; exact hlt)]
        rfl
      · unfold rd
        rw [List.getElem?_eq_none (by simp [back_len]; omega), List.getElem?_eq_none (by omega)]
    · have e : rd (back ρ ρ' (i :: is)) j = rd (back ρ ρ' is) j := rd_set_ne hj
      rw [e]
      exact back_in hl (by simpa [hj] using h)
theorem back_out {j : Nat} : ∀ {is : List Nat}, j ∉ is → rd (back ρ ρ' is) j = rd ρ' j
  | [], _ => rfl
  | i :: is, h => by
    simp only [List.mem_cons, not_or] at h
    have e : rd (back ρ ρ' (i :: is)) j = rd (back ρ ρ' is) j := rd_set_ne h.1
    rw [e]
    exact back_out h.2
theorem EnvOk.back {is : List Nat} (e : EnvOk K S F ρ' (L2.wipe σ is) H') (hl : ρ0.length = σ.length) (h0 : ∀ i ∈ is, F i = []) (h : ∀ i ∈ is, ∀ fl d, rd ρ0 i = some (fl, d) → fl = .sh ∧ ∃ v, σ[i]? = some (some v) ∧ Rep K (Wt S F) H' d v) :
    EnvOk K S F (Mini.back ρ0 ρ' is) σ H' := by
  have l1 : ρ'.length = σ.length := by rw [e.len, L2.wipe_length]
  refine ⟨by rw [back_len, l1], fun j fl d q => ?_, fun j q => ?_, e.dis, e.ext, e.wf⟩
  · by_cases hj : j ∈ is
    · rw [back_in (hl.trans l1.symm) hj] at q
      obtain ⟨rfl, v, hv, r⟩ := h j hj fl d q
      refine ⟨v, hv, ?_⟩
      rw [h0 j hj]
      exact .sh r
    · rw [back_out hj] at q
      obtain ⟨v, hv, r⟩ := e.slot j fl d q
      exact ⟨v, (L2.wipe_some hv).1, r⟩
  · by_cases hj : j ∈ is
    · exact h0 j hj
    · rw [back_out hj] at q
      exact e.emp j q
/-- another object that is only kept away from is changed -/
theorem EnvOk.putS {a : Addr} {o : HO} (e : EnvOk K S F ρ σ H) (ha : S a) (ho : mu (upd H a o) a) : EnvOk K S F ρ σ (upd H a o) := by
  refine ⟨e.len, fun i fl d q => ?_, e.emp, e.dis, e.ext, fun b z => ?_⟩
  · obtain ⟨v, hv, r⟩ := e.slot i fl d q
    refine ⟨v, hv, r.step (fun b u q n => ?_) (fun _ z => .inl z) (fun b hb => ?_) e.wt⟩
    · rw [upd_ne fun z => n (.inl (by rw [z]; exact ha))]; exact q
    · exact upd_ne fun z => e.ext i b hb (by rw [z]; exact ha)
  · by_cases hb : b = a
    · subst hb; exact ho
    · rcases e.wf b z with ⟨_, q⟩ | ⟨_, q⟩
      · exact .inl ⟨_, by rw [upd_ne hb]; exact q⟩
      · exact .inr ⟨_, by rw [upd_ne hb]; exact q⟩
theorem Fr.putNew {D : Addr} {o : HO} (f : Fr F H F' H') (h : H D = none) : Fr F H F' (upd H' D o) :=
  ⟨fun b u q n => by rw [upd_ne (ne_of_none q h)]; exact f.keep b u q n, f.new, fun b q z => by
    have hb : b ≠ D := fun e => q (by rw [e]; exact h)
    rw [upd_ne hb] at z
    exact f.there b q z⟩
/-- what a target's store leaves -/
structure PostG (K : PySem.W.Frag) (S : Addr → Prop) (F : Fs) (ρ' : En) (σ σ' : L2.St) (H : Hp) (F' : Fs) (A : List Addr) (is : List Nat) : Prop where
  env : EnvOk K S F' ρ' σ' H
  out : ∀ i, i ∉ is → F' i = F i ∧ σ'[i]? = σ[i]?
  mem : ∀ i a, a ∈ F' i → a ∈ A ∨ a ∈ F i
  len : σ'.length = σ.length
def tG (K : PySem.W.Frag) (p : Pat) : TG := fun v σ H Q => ∃ S F ρ fl d A ρ', EnvOk K (addS S A) F ρ σ H ∧ okFl fl = true ∧ SlotRep K (Wt (addS S A) F) H fl v d A ∧ (∀ a ∈ A, ¬ S a) ∧ bind p (fl, d) ρ = some ρ' ∧
  ∀ σ' F', PostG K S F ρ' σ σ' H F' A (slots p) → Q σ' H
def tGs (K : PySem.W.Frag) (ps : Pats) : TGs := fun vs σ H Q => ∃ S F ρ ds ρ', EnvOk K S F ρ σ H ∧ Reps K (Wt S F) H ds vs ∧ binds ps ds ρ = some ρ' ∧ ∀ σ' F', PostG K S F ρ' σ σ' H F' [] (slotss ps) → Q σ' H
theorem wipe_ext : ∀ {is : List Nat}, σ'.length = σ.length → (∀ i, i ∉ is → σ'[i]? = σ[i]?) → L2.wipe σ' is = L2.wipe σ is := by
  have key : ∀ (τ : L2.St) (is : List Nat) (j : Nat), (L2.wipe τ is)[j]? = if j ∈ is then (if j < τ.length then some none else none) else τ[j]? := by
    intro τ is
    induction is with
    | nil => intro j; simp [L2.wipe]
    | cons i is ih =>
      intro j
      show ((L2.wipe τ is).set i none)[j]? = _
      by_cases hj : j = i
      · subst hj
        simp only [List.mem_cons, true_or, if_true]
        by_cases hlt : j < τ.length
        · rw [List.getElem?_set_self (by rw [L2.wipe_length]; exact hlt), if_pos hlt]
        · rw [List.getElem?_eq_none (by simp [L2.wipe_length]; omega), if_neg hlt]
      · rw [List.getElem?_set_ne (Ne.symm hj), ih j]
        simp [hj]
  intro is hl h
  refine List.ext_getElem? fun j => ?_
  rw [key, key, hl]
  by_cases hj : j ∈ is
  · rw [if_pos hj, if_pos hj]
  · rw [if_neg hj, if_neg hj, h j hj]
end
section
variable {X : Cx} {cl : CallS} {N : List Str} {sc st : Scope}
theorem pg_w {e : Expr} {t t' : TG} (h : PG X e t) (w : ∀ v σ H Q, t' v σ H Q → t v σ H Q) : PG X e t' := ⟨fun pins s σ H v u Q I r q => h.run pins s σ H v u Q I r (w v σ H Q q)⟩
theorem pgs_w {es : List Expr} {t t' : TGs} (h : PGs X es t) (w : ∀ v σ H Q, t' v σ H Q → t v σ H Q) : PGs X es t' := ⟨fun pins s σ H v u Q I r q => h.run pins s σ H v u Q I r (w v σ H Q q)⟩
theorem PostG.refl {K : PySem.W.Frag} {S : Addr → Prop} {F : Fs} {ρ : En} {σ : L2.St} {H : Hp} (e : EnvOk K S F ρ σ H) : PostG K S F ρ σ σ H F [] [] :=
  ⟨e, fun _ _ => ⟨rfl, rfl⟩, fun _ _ h => .inr h, rfl⟩
theorem chkP_each {p : Pat} {e : Expr} (h : chkP N st p e = true) (es : List Expr) (env : Env) : assignEach (e :: es) env = (false, assign e env) :: assignEach es env := by
  cases e <;> first | rfl | (cases p <;> cases h)
theorem chkPs_each {ps : Pats} : ∀ {es : List Expr}, chkPs N st ps es = true → ∀ env, (assignEach es env).findIdx? (·.1) = none ∧ (assignEach es env).length = es.length := by
  induction ps using Pats.rec (motive_1 := fun _ => True) with
  | nm _ => trivial
  | tp _ _ => trivial
  | nil => intro es h env; cases es with
    | nil => exact ⟨rfl, rfl⟩
    | cons e es => cases h
  | cons p ps _ ih => intro es h env; cases es with
    | nil => cases h
    | cons e es =>
      obtain ⟨h1, h2⟩ := and2 (show (chkP N st p e && chkPs N st ps es) = true from h)
      obtain ⟨i1, i2⟩ := ih h2 env
      rw [chkP_each h1]
      refine ⟨?_, by simp [i2]⟩
      rw [List.findIdx?_cons]
      simp [i1]
theorem Gd.isSto (g : Gd cl N sc st X) {x : Str} (h : isSto st x = true) : L2.Loc sc x ∧ (X.fn x = true ∨ sc.names.lookup x = some .local) := by
  refine g.st x ?_
  unfold Mini.isSto at h
  split at h
  · exact .inl (by assumption)
  · exact .inr (by assumption)
  · cases h
theorem binds_len : ∀ (ps : Pats) {ds : List Dt} {ρ ρ' : En} {es : List Expr}, binds ps ds ρ = some ρ' → chkPs N st ps es = true → ds.length = es.length
  | .nil, [], _, _, [], _, _ => rfl
  | .nil, [], _, _, _ :: _, _, h => by cases h
  | .nil, _ :: _, _, _, _, h, _ => by cases h
  | .cons p ps, [], _, _, _, h, _ => by cases h
  | .cons p ps, _ :: _, _, _, [], _, h => by cases h
  | .cons p ps, d :: ds, ρ, ρ', e :: es, b, h => by
    obtain ⟨ρ1, b1, b2⟩ := bindS (show (bind p (.sh, d) ρ).bind (binds ps ds) = some ρ' from b)
    obtain ⟨_, h2⟩ := and2 (show (chkP N st p e && chkPs N st ps es) = true from h)
    simp [binds_len ps b2 h2]
mutual
theorem pg_ (g : Gd cl N sc st X) : ∀ (p : Pat) (e : Expr), chkP N st p e = true → PG X e (tG X.K p)
  | .nm i, e, h => by
    cases e with
    | Name x pos =>
      obtain ⟨h1, h2⟩ := and2 (show (decide (N[i]? = some x) && isSto st x) = true from h)
      have h1 := of_decide_eq_true h1
      obtain ⟨hl, hf⟩ := g.isSto h2
      refine pg_w (pg_name (by rw [g.eN]; exact g.nd) (by rw [g.eN]; exact h1) (by rw [g.es]; exact hl) (by rw [g.es]; exact hf)) fun v σ H Q ⟨S, F, ρ, fl, d, A, ρ', e, ok, r, ap, b, k⟩ => ?_
      simp only [bind] at b
      obtain ⟨c, b⟩ := iteS b
      cases b
      obtain ⟨_, hi⟩ := and2 c
      have hi := of_decide_eq_true hi
      refine k _ _ ⟨e.set r hi ap, fun j hj => ?_, fun j a ha => ?_, by simp⟩
      · have hj : j ≠ i := by simpa [slots] using hj
        exact ⟨setF_ne hj, List.getElem?_set_ne (Ne.symm hj)⟩
      · by_cases hj : j = i
        · subst hj; rw [setF_same] at ha; exact .inl ha
        · rw [setF_ne hj] at ha; exact .inr ha
    | _ => cases h
  | .tp ps, e, h => by
    cases e with
    | Tuple es k pos =>
      have h : chkPs N st ps es = true := h
      obtain ⟨f1, f2⟩ := chkPs_each h X.env
      refine pg_w (pg_tup (n := es.length) g.calm (pgs_ g ps es h) f2 f1) fun v σ H Q ⟨S, F, ρ, fl, d, A, ρ', e, ok, r, ap, b, k⟩ => ?_
      cases fl with
      | sh =>
        cases d with
        | tuple ds =>
          have b' : binds ps ds ρ = some ρ' := b
          cases r with
          | sh r =>
            obtain ⟨a, xs, rfl, hq, rr⟩ := r.tup
            rw [addS0] at e rr
            have hl : xs.length = es.length := by
              rw [← rr.length]
              exact binds_len ps b' h
            exact ⟨a, xs, rfl, hq, hl, S, F, ρ, ds, ρ', e, rr, b', fun σ' F' pg => k σ' F' pg⟩
        | _ => cases b
      | _ => cases d <;> cases b
    | _ => cases h
theorem pgs_ (g : Gd cl N sc st X) : ∀ (ps : Pats) (es : List Expr), chkPs N st ps es = true → PGs X es (tGs X.K ps)
  | .nil, [], _ => pgs_w pgs_nil fun vs σ H Q ⟨S, F, ρ, ds, ρ', e, r, b, k⟩ => by
    cases ds with
    | nil =>
      cases b
      exact ⟨r, k σ F (PostG.refl e)⟩
    | cons d ds => cases b
  | .nil, _ :: _, h => by cases h
  | .cons p ps, [], h => by cases h
  | .cons p ps, e :: es, h => by
    obtain ⟨h1, h2⟩ := and2 (show (chkP N st p e && chkPs N st ps es) = true from h)
    refine pgs_w (pgs_cons (pg_ g p e h1) (pgs_ g ps es h2) (by rw [chkP_each h1]; rfl)) fun vs σ H Q ⟨S, F, ρ, ds, ρ', e, r, b, k⟩ => ?_
    cases ds with
    | nil => cases b
    | cons d ds =>
      obtain ⟨x, xs, rfl, r1, r2⟩ := r
      obtain ⟨ρ1, b1, b2⟩ := bindS (show (bind p (.sh, d) ρ).bind (binds ps ds) = some ρ' from b)
      have h0 : EnvOk X.K (addS S []) F ρ σ H := by rw [addS0]; exact e
      refine ⟨x, xs, rfl, S, F, ρ, .sh, d, [], ρ1, h0, rfl, .sh (by rw [addS0]; exact r1), fun a ha => (by cases ha), b1, fun σ1 F1 p1 => ?_⟩
      have sub : ∀ a, Wt S F1 a → Wt S F a := fun a z => by
        rcases z with z | ⟨i, z⟩
        · exact .inl z
        · rcases p1.mem i a z with q | q
          · cases q
          · exact .inr ⟨i, q⟩
      refine ⟨S, F1, ρ1, ds, ρ', p1.env, r2.step (fun _ _ e _ => e) (fun a z => .inl (sub a z)), b2, fun σ2 F2 p2 => k σ2 F2 ⟨p2.env, fun i hi => ?_, fun i a ha => ?_, p2.len.trans p1.len⟩⟩
      · have hi' : i ∉ slots p ∧ i ∉ slotss ps := by simpa [slotss] using hi
        obtain ⟨a1, a2⟩ := p1.out i hi'.1
        obtain ⟨a3, a4⟩ := p2.out i hi'.2
        exact ⟨a3.trans a1, a4.trans a2⟩
      · rcases p2.mem i a ha with q | q
        · cases q
        · exact p1.mem i a q
end

end
end Mini

end
section
set_option Elab.async false
set_option linter.all false
set_option maxRecDepth 100000
set_option maxHeartbeats 4000000
/-! Mini, part 15: rules of what loops go over; comprehensions. -/
namespace Mini
open PySem PySem.Spec PyProof.Rows L2
section
variable {X : Cx} {cl : CallS} {N : List Str} {sc st : Scope} {tg x y z n : Expr} {pos : Pos}
abbrev NS (X : Cx) (x : Expr) : Prop := ∀ xs env, starEach (x :: xs) env = (false, eval x env) :: starEach xs env
theorem pi_e_ {a : E} (h : PE X x (tD X.K (ev cl a))) : PI X tg x (tI X.K (evI cl (.e a))) := by
  refine ⟨fun pins s σ H R I hw => ?_⟩
  obtain ⟨S, F, ρ, r, e, h1, h2⟩ := hw
  simp only [evI] at h1
  obtain ⟨⟨d, ρ1⟩, e1, h1⟩ := bindS h1
  obtain ⟨ds, e2, rfl⟩ := mapS h1
  cases d with
  | list es =>
    cases e2
    refine (pi_list (pe_k h)).run pins s σ H R I ⟨S, F, ρ, _, e, e1, fun v H1 F1 p1 => ?_⟩
    obtain ⟨a', xs, rfl, hl, rr⟩ := p1.rep
    exact ⟨a', rfl, ⟨xs, SqL.of hl.1⟩, h2 _ _ _ p1.go (wk_list hl rr)⟩
  | tuple es =>
    cases e2
    refine (pi_tup (pe_k h)).run pins s σ H R I ⟨S, F, ρ, _, e, e1, fun v H1 F1 p1 => ?_⟩
    obtain ⟨a', xs, rfl, hl, rr⟩ := p1.rep
    have hl' : StT X.K (Wt S F1) H1 a' xs := hl
    exact ⟨a', rfl, ⟨xs, hl'.sq fun _ _ e _ => e⟩, h2 _ _ _ p1.go (wk_tup hl' rr)⟩
  | _ => cases e2
theorem bnd_ok {i : Int} (h : bnd62 i = true) : -(2 ^ 62) ≤ i ∧ i < 2 ^ 62 := by
  obtain ⟨a, b⟩ := and2 h
  exact ⟨of_decide_eq_true a, of_decide_eq_true b⟩
theorem pi_rng1_ (g : Gd cl N sc st X) {a : E} (hn : chkGl sc "range" n = true) (hx : NS X x) (h : PE X x (tD X.K (ev cl a))) : PI X tg (.Call n [x] [] pos) (tI X.K (evI cl (.rng1 a))) := by
  obtain ⟨p, rfl, k1, k2⟩ := chkGl_ok hn
  refine ⟨fun pins s σ H R I hw => ?_⟩
  obtain ⟨S, F, ρ, r, e, h1, h2⟩ := hw
  simp only [evI] at h1
  obtain ⟨⟨d, ρ1⟩, e1, h1⟩ := bindS h1
  split at h1
  · rename_i i hd
    obtain ⟨c, h1⟩ := iteS h1
    cases h1
    cases hd
    obtain ⟨c1, c2⟩ := bnd_ok c
    refine (pi_range1 (g.gl k1) (g.free _ (by simp [freeN])) (pa_cons (pe_k h) pa_nil (hx _ _)) (hx _ _)).run pins s σ H R I ⟨S, F, ρ, _, e, e1, fun v H1 F1 p1 => ?_⟩
    exact ⟨i, by rw [show v = .int i from p1.rep], c1, c2, h2 _ _ _ p1.go wk_range⟩
  · cases h1
theorem pi_rng2_ (g : Gd cl N sc st X) {a b : E} (hn : chkGl sc "range" n = true) (hx : NS X x) (hy : NS X y) (ha : PE X x (tD X.K (ev cl a))) (hb : PE X y (tD X.K (ev cl b))) : PI X tg (.Call n [x, y] [] pos) (tI X.K (evI cl (.rng2 a b))) := by
  obtain ⟨p, rfl, k1, k2⟩ := chkGl_ok hn
  refine ⟨fun pins s σ H R I hw => ?_⟩
  obtain ⟨S, F, ρ, r, e, h1, h2⟩ := hw
  simp only [evI] at h1
  obtain ⟨⟨d, ρ1⟩, e1, h1⟩ := bindS h1
  obtain ⟨⟨d2, ρ2⟩, e2, h1⟩ := bindS h1
  split at h1
  · rename_i i j hd hd2
    obtain ⟨c, h1⟩ := iteS h1
    cases h1
    cases hd
    cases hd2
    obtain ⟨c, c'⟩ := and2 c
    obtain ⟨c1, c2⟩ := bnd_ok c
    obtain ⟨c3, c4⟩ := bnd_ok c'
    refine (pi_range2 (g.gl k1) (g.free _ (by simp [freeN])) (pa_cons (pe_k ha) (pa_cons (pe_k hb) pa_nil (hy _ _)) (hx _ _)) (by rw [hx, hy]; rfl) (by rw [hy]; rfl)).run pins s σ H R I ⟨S, F, ρ, _, e, e1, fun v H1 F1 p1 => ⟨S, F1, ρ1, _, p1.go.env, e2, fun u H2 F2 p2 => ?_⟩⟩
    exact ⟨i, j, by rw [show v = .int i from p1.rep, show u = .int j from p2.rep], ⟨c1, c2, c3, c4⟩, h2 _ _ _ (p1.go.trans p2.go) wk_range⟩
  · cases h1
theorem pi_rng3_ (g : Gd cl N sc st X) {a b c : E} (hn : chkGl sc "range" n = true) (hx : NS X x) (hy : NS X y) (hz : NS X z) (ha : PE X x (tD X.K (ev cl a))) (hb : PE X y (tD X.K (ev cl b))) (hc : PE X z (tD X.K (ev cl c))) : PI X tg (.Call n [x, y, z] [] pos) (tI X.K (evI cl (.rng3 a b c))) := by
  obtain ⟨p, rfl, k1, k2⟩ := chkGl_ok hn
  refine ⟨fun pins s σ H R I hw => ?_⟩
  obtain ⟨S, F, ρ, r, e, h1, h2⟩ := hw
  simp only [evI] at h1
  obtain ⟨⟨d, ρ1⟩, e1, h1⟩ := bindS h1
  obtain ⟨⟨d2, ρ2⟩, e2, h1⟩ := bindS h1
  obtain ⟨⟨d3, ρ3⟩, e3, h1⟩ := bindS h1
  split at h1
  · rename_i i j k hd hd2 hd3
    obtain ⟨c, h1⟩ := iteS h1
    cases h1
    cases hd
    cases hd2
    cases hd3
    simp only [Bool.and_eq_true, decide_eq_true_eq] at c
    obtain ⟨⟨⟨c1, c2⟩, c3⟩, c4⟩ := c
    refine (pi_range3 (g.gl k1) (g.free _ (by simp [freeN])) (pa_cons (pe_k ha) (pa_cons (pe_k hb) (pa_cons (pe_k hc) pa_nil (hz _ _)) (hy _ _)) (hx _ _)) (hx _ _) (by rw [hy, hz]; rfl)).run pins s σ H R I ⟨S, F, ρ, _, e, e1, fun v H1 F1 p1 => ⟨S, F1, ρ1, _, p1.go.env, e2, fun u H2 F2 p2 => ⟨S, F2, ρ2, _, p2.go.env, e3, fun w H3 F3 p3 => ?_⟩⟩⟩
    refine ⟨i, j, k, (Builtin.Range.rangeSize i j k).toNat, by rw [show v = .int i from p1.rep, show u = .int j from p2.rep, show w = .int k from p3.rep], ⟨c1, by omega, c3, by omega⟩, h2 _ _ _ ((p1.go.trans p2.go).trans p3.go) wk_rangeC⟩
  · cases h1
theorem pi_enum_ (g : Gd cl N sc st X) {a : E} {es : List Expr} {kk : Nat} {tpos : Pos} (hn : chkGl sc "enumerate" n = true) (hx : NS X x) (h : PE X x (tD X.K (ev cl a))) : PI X (.Tuple es kk tpos) (.Call n [x] [] pos) (tI X.K (evI cl (.enum a))) := by
  obtain ⟨p, rfl, k1, k2⟩ := chkGl_ok hn
  refine ⟨fun pins s σ H R I hw => ?_⟩
  obtain ⟨S, F, ρ, r, e, h1, h2⟩ := hw
  simp only [evI] at h1
  obtain ⟨⟨d, ρ1⟩, e1, h1⟩ := bindS h1
  obtain ⟨ds, e2, rfl⟩ := mapS h1
  cases d with
  | list es =>
    cases e2
    refine (pi_enum (g.gl k1) (g.free _ (by simp [freeN])) (pa_cons (pe_k h) pa_nil (hx _ _)) (hx _ _)).run pins s σ H R I ⟨S, F, ρ, _, e, e1, fun v H1 F1 p1 => ?_⟩
    obtain ⟨a', xs, rfl, hl, rr⟩ := p1.rep
    exact ⟨a', xs, rfl, SqL.of hl.1, h2 _ _ _ p1.go (wk_enumL hl rr)⟩
  | tuple es =>
    cases e2
    refine (pi_enT (g.gl k1) (g.free _ (by simp [freeN])) (pa_cons (pe_k h) pa_nil (hx _ _)) (hx _ _)).run pins s σ H R I ⟨S, F, ρ, _, e, e1, fun v H1 F1 p1 => ?_⟩
    obtain ⟨a', xs, rfl, hl, rr⟩ := p1.rep
    have hl' : StT X.K (Wt S F1) H1 a' xs := hl
    exact ⟨a', xs, rfl, hl'.sq fun _ _ e _ => e, h2 _ _ _ p1.go (wk_enumT hl' rr)⟩
  | _ => cases e2
theorem pi_zip_ (g : Gd cl N sc st X) {a b : E} {es : List Expr} {kk : Nat} {tpos : Pos} (hn : chkGl sc "zip" n = true) (hx : NS X x) (hy : NS X y) (ha : PE X x (tD X.K (ev cl a))) (hb : PE X y (tD X.K (ev cl b))) : PI X (.Tuple es kk tpos) (.Call n [x, y] [] pos) (tI X.K (evI cl (.zip a b))) := by
  obtain ⟨p, rfl, k1, k2⟩ := chkGl_ok hn
  refine ⟨fun pins s σ H R I hw => ?_⟩
  obtain ⟨S, F, ρ, r, e, h1, h2⟩ := hw
  simp only [evI] at h1
  obtain ⟨⟨d, ρ1⟩, e1, h1⟩ := bindS h1
  obtain ⟨⟨d2, ρ2⟩, e2, h1⟩ := bindS h1
  obtain ⟨ds, e3, rfl⟩ := mapS h1
  refine (RZ.pi_zipA (g.gl k1) (g.free _ (by simp [freeN])) (pa_cons (pe_k ha) (pa_cons (pe_k hb) pa_nil (hy _ _)) (hx _ _)) (hx _ _) (by rw [hy]; rfl)).run pins s σ H R I ⟨S, F, ρ, _, e, e1, fun v H1 F1 p1 => ⟨S, F1, ρ1, _, p1.go.env, e2, fun u H2 F2 p2 => ?_⟩⟩
  have q1 : Rep X.K (Wt S F2) H2 d v := p2.go.rep p1.rep
  have q2 : Rep X.K (Wt S F2) H2 d2 u := p2.rep
  have gg := p1.go.trans p2.go
  cases d with
  | list es1 =>
    cases d2 with
    | list es2 =>
      cases e3
      obtain ⟨a1, xs, rfl, hl, rr⟩ := q1
      obtain ⟨a2, ys, rfl, hl2, rr2⟩ := q2
      exact ⟨a1, a2, xs, ys, rfl, .inl ⟨SqL.of hl.1, SqL.of hl2.1, h2 _ _ _ gg (wk_zipL hl hl2 rr rr2)⟩⟩
    | _ => cases e3
  | tuple es1 =>
    cases d2 with
    | tuple es2 =>
      cases e3
      obtain ⟨a1, xs, rfl, hl, rr⟩ := q1
      obtain ⟨a2, ys, rfl, hl2, rr2⟩ := q2
      have hl' : StT X.K (Wt S F2) H2 a1 xs := hl
      have hl2' : StT X.K (Wt S F2) H2 a2 ys := hl2
      exact ⟨a1, a2, xs, ys, rfl, .inr ⟨hl'.sq fun _ _ e _ => e, hl2'.sq fun _ _ e _ => e, h2 _ _ _ gg (wk_zipT hl' hl2' rr rr2)⟩⟩
    | _ => cases e3
  | _ => cases d2 <;> cases e3
/-- list(range(a, b)) -/
theorem upTo_map {lo : Int} {n : Nat} {K : PySem.W.Frag} {W : Addr → Prop} {H : Hp} : Reps K W H (upTo lo 1 n) ((List.range n).map fun i => V.int (lo + (i : Nat))) := by
  have key : ∀ l : List Nat, Reps K W H (l.map fun i => PyData.int (lo + (i : Nat) * 1)) (l.map fun i => V.int (lo + (i : Nat))) := by
    intro l
    induction l with
    | nil => rfl
    | cons i l ih => exact .cons (by show V.int _ = V.int _; rw [Int.mul_one]) ih
  exact key _
theorem pe_lrg_ (g : Gd cl N sc st X) {a b : E} {n' : Expr} {pos' : Pos} (hn : chkGl sc "list" n = true) (hn' : chkGl sc "range" n' = true) (hx : NS X x) (hy : NS X y) (ha : PE X x (tD X.K (ev cl a))) (hb : PE X y (tD X.K (ev cl b))) :
    PE X (.Call n [.Call n' [x, y] [] pos'] [] pos) (tD X.K (ev cl (.lrg a b))) := by
  obtain ⟨p, rfl, k1, k2⟩ := chkGl_ok hn
  obtain ⟨p', rfl, k3, k4⟩ := chkGl_ok hn'
  refine pe_w (pe_listRg g.calm (g.gl k1) (g.free _ (by simp [freeN])) (prg_2 (g.gl k3) (g.free _ (by simp [freeN])) (pe_k ha) (pe_k hb) (hx _ _) (hy _ _) (by rw [hy]; rfl)) rfl) fun σ H Q ⟨S, F, ρ, r, e, h1, h2⟩ => ?_
  simp only [ev] at h1
  obtain ⟨⟨d, ρ1⟩, e1, h1⟩ := bindS h1
  obtain ⟨⟨d2, ρ2⟩, e2, h1⟩ := bindS h1
  split at h1
  · rename_i i j hd hd2
    obtain ⟨c, h1⟩ := iteS h1
    cases h1
    cases hd
    cases hd2
    obtain ⟨c, c'⟩ := and2 c
    obtain ⟨c, c''⟩ := and2 c
    obtain ⟨c1, c2⟩ := bnd_ok c
    obtain ⟨c3, c4⟩ := bnd_ok c''
    have c5 := of_decide_eq_true c'
    refine ⟨S, F, ρ, _, e, e1, fun v H1 F1 p1 => ⟨S, F1, ρ1, _, p1.go.env, e2, fun u H2 F2 p2 => ?_⟩⟩
    refine ⟨i, j, p1.rep, p2.rep, ⟨c1, c2, c3, c4, Nat.le_trans c5 (by decide)⟩, fun q hq => ?_⟩
    obtain ⟨A, t⟩ := (NewV.lst hq (upTo_map (lo := i) (n := (j - i).toNat))).post (p1.go.trans p2.go)
    exact h2 _ _ _ _ t
  · cases h1
end
end Mini

end
section
set_option Elab.async false
set_option linter.all false
set_option maxRecDepth 100000
set_option maxHeartbeats 4000000
/-! Mini, part 15l: dicts locked while a loop goes over them. -/
namespace Mini
open PySem PySem.Spec PyProof.Rows L2
/-- what shared data may stand on stays -/
structure Sm (H H' : Hp) : Prop where
  lst : ∀ b xs, H b = some (.lst xs) → H' b = some (.lst xs)
  tup : ∀ b xs, H b = some (.tup xs) → H' b = some (.tup xs)
  dk : ∀ b kvs, Rd H b (.dK kvs) → Rd H' b (.dK kvs)
  flst : ∀ b o xs, H b = some (.frz o (.lst xs)) → H' b = some (.frz o (.lst xs))
section
variable {K : PySem.W.Frag} {W : Addr → Prop} {H H' : Hp}
mutual
theorem Rep.sm (m : Sm H H') : ∀ (d : Dt) (v : V), Rep K W H d v → Rep K W H' d v
  | .none, _, r => r
  | .bool _, _, r => r
  | .int _, _, r => r
  | .str _, _, r => r
  | .list ds, v, ⟨a, xs, e, ⟨r, hw⟩, q⟩ => ⟨a, xs, e, ⟨m.lst _ _ r, hw⟩, Reps.sm m ds xs q⟩
  | .tuple ds, v, ⟨a, xs, e, r, q⟩ => ⟨a, xs, e, r.imp (fun r => ⟨m.tup _ _ r.1, r.2⟩) id, Reps.sm m ds xs q⟩
  | .dict es, v, ⟨a, kvs, e, ⟨r, hw⟩, q⟩ => ⟨a, kvs, e, ⟨m.dk _ _ r, hw⟩, RepKv.sm m es kvs q⟩
theorem Reps.sm (m : Sm H H') : ∀ (ds : List Dt) (xs : List V), Reps K W H ds xs → Reps K W H' ds xs
  | [], _, r => r
  | d :: ds, xs, ⟨x, r, e, q1, q2⟩ => ⟨x, r, e, Rep.sm m d x q1, Reps.sm m ds r q2⟩
theorem RepKv.sm (m : Sm H H') : ∀ (es : List (Dt × Dt)) (r : List (Key × V)), RepKv K W H es r → RepKv K W H' es r
  | [], _, r => r
  | (kd, d) :: es, r, ⟨k, v, q, e, e1, q1, q2⟩ => ⟨k, v, q, e, e1, Rep.sm m d v q1, RepKv.sm m es q q2⟩
end
theorem SlotRep.sm (m : Sm H H') {fl : Fl} {v : V} {d : Dt} {A : List Addr} (hA : ∀ a ∈ A, H' a = H a) (r : SlotRep K W H fl v d A) : SlotRep K W H' fl v d A := by
  cases r with
  | sh r => exact .sh (r.sm m)
  | lst e r => exact .lst ((hA _ (List.mem_singleton.mpr rfl)).trans e) (r.sm m)
  | dct e r => exact .dct ((hA _ (List.mem_singleton.mpr rfl)).trans e) (r.sm m)
  | src e e2 ne => exact .src ((hA _ (by simp)).trans e) ((hA _ (by simp)).trans e2) ne
  | scr e => exact .scr (e.imp (fun ⟨o, e⟩ => ⟨o, m.flst _ _ _ e⟩) id)
variable {S : Addr → Prop} {F F' : Fs} {ρ ρ' : En} {σ σ' : L2.St} {d : Addr} {od : Obj} {kvs : List (Key × V)}
theorem EnvOk.sm (m : Sm H H') (e : EnvOk K S F ρ σ H) (hA : ∀ a, Wt S F a → H' a = H a) : EnvOk K S F ρ σ H' := by
  refine ⟨e.len, fun i fl d q => ?_, e.emp, e.dis, e.ext, fun a h => ?_⟩
  · obtain ⟨v, hv, r⟩ := e.slot i fl d q
    exact ⟨v, hv, r.sm m fun a ha => hA a (.inr ⟨i, ha⟩)⟩
  · have := e.wf a h
    unfold mu at this ⊢
    rw [hA a (.inl h)]
    exact this
theorem sm_lock (hd : H d = some (.dK kvs)) : Sm H (upd H d (.frz od (.dK kvs))) := by
  have ne : ∀ b u, H b = some u → (∀ k, u ≠ .dK k) → upd H d (.frz od (.dK kvs)) b = some u := fun b u h n => by
    rw [upd_ne fun z => by rw [z, hd] at h; cases h; exact n _ rfl]
    exact h
  refine ⟨fun b xs h => ne b _ h fun k z => (by cases z), fun b xs h => ne b _ h fun k z => (by cases z), fun b k h => ?_, fun b o xs h => ne b _ h fun k z => (by cases z)⟩
  rcases h with h | ⟨o, h⟩
  · by_cases hb : b = d
    · subst hb
      rw [hd] at h
      cases h
      exact .inr ⟨od, upd_same⟩
    · exact .inl (by rw [upd_ne hb]; exact h)
  · exact .inr ⟨o, ne b _ h fun k z => (by cases z)⟩
theorem sm_unlock (hd : H d = some (.frz od (.dK kvs))) : Sm H (upd H d (.dK kvs)) := by
  have ne : ∀ b u, H b = some u → (∀ o k, u ≠ .frz o (.dK k)) → upd H d (.dK kvs) b = some u := fun b u h n => by
    rw [upd_ne fun z => by rw [z, hd] at h; cases h; exact n _ _ rfl]
    exact h
  refine ⟨fun b xs h => ne b _ h fun o k z => (by cases z), fun b xs h => ne b _ h fun o k z => (by cases z), fun b k h => ?_, fun b o xs h => ne b _ h fun o k z => (by cases z)⟩
  rcases h with h | ⟨o, h⟩
  · exact .inl (ne b _ h fun o k z => (by cases z))
  · by_cases hb : b = d
    · subst hb
      rw [hd] at h
      cases h
      exact .inl upd_same
    · exact .inr ⟨o, by rw [upd_ne hb]; exact h⟩
theorem EnvOk.lock (e : EnvOk K S F ρ σ H) (hd : H d = some (.dK kvs)) (hn : ¬ Wt S F d) : EnvOk K S F ρ σ (upd H d (.frz od (.dK kvs))) :=
  e.sm (sm_lock hd) fun a h => upd_ne fun z => hn (z ▸ h)
theorem EnvOk.unlock (e : EnvOk K S F ρ σ H) (hd : H d = some (.frz od (.dK kvs))) (hn : ¬ Wt S F d) : EnvOk K S F ρ σ (upd H d (.dK kvs)) :=
  e.sm (sm_unlock hd) fun a h => upd_ne fun z => hn (z ▸ h)
theorem Fr.unlock (hd : H d = some (.dK kvs)) (hf : ∀ i, d ∉ F i) (fr : Fr F (upd H d (.frz od (.dK kvs))) F' H') : H' d = some (.frz od (.dK kvs)) ∧ (∀ i, d ∉ F' i) ∧ Fr F H F' (upd H' d (.dK kvs)) := by
  have h1 := fr.keep d _ upd_same hf
  have nn : ∀ b, upd H d (.frz od (.dK kvs)) b = none → H b = none := fun b h => by
    by_cases hb : b = d
    · subst hb; rw [upd_same] at h; cases h
    · rwa [upd_ne hb] at h
  refine ⟨h1, fun i z => ?_, fun b o e n => ?_, fun i b z => (fr.new i b z).imp id (nn b), fun b e => ?_⟩
  · rcases fr.new i d z with ⟨j, z⟩ | z
    · exact hf j z
    · rw [upd_same] at z; cases z
  · by_cases hb : b = d
    · subst hb; rw [hd] at e; cases e; exact upd_same
    · rw [upd_ne hb]; exact fr.keep b o (by rw [upd_ne hb]; exact e) n
  · by_cases hb : b = d
    · subst hb; rw [upd_same]; exact Option.some_ne_none _
    · rw [upd_ne hb]; exact fr.there b (by rw [upd_ne hb]; exact e)
theorem PostE.unlock {r : Sl × En} {v : V} {A : List Addr} (hd : H d = some (.dK kvs)) (hn : ¬ Wt S F d) (p : PostE K S F σ (upd H d (.frz od (.dK kvs))) r v H' F' A) :
    H' d = some (.frz od (.dK kvs)) ∧ PostE K S F σ H r v (upd H' d (.dK kvs)) F' A := by
  obtain ⟨⟨fl, dd⟩, ρ2⟩ := r
  obtain ⟨h1, h2, fr⟩ := p.fr.unlock hd (fun i z => hn (.inr ⟨i, z⟩))
  have nA : d ∉ A := fun z => by
    rcases p.new d z with ⟨j, z⟩ | z
    · exact hn (.inr ⟨j, z⟩)
    · rw [upd_same] at z; cases z
  have nW : ¬ Wt (addS S A) F' d := fun z => by
    rcases z with (z | z) | ⟨i, z⟩
    · exact hn (.inl z)
    · exact nA z
    · exact h2 i z
  refine ⟨h1, p.env.unlock h1 nW, ?_, fr, p.sub, fun a ha => (p.new a ha).imp id fun z => ?_, p.apart⟩
  · cases p.res with
    | slot ok q => exact .slot ok (q.sm (sm_unlock h1) fun a ha => upd_ne fun z => nA (z ▸ ha))
    | bo a b => exact .bo a b
  · rwa [upd_ne (fun z2 : a = d => nA (z2 ▸ ha))] at z
/-- a share first -/
theorem PostE.after {F1 : Fs} {ρ1 : En} {H1 : Hp} {r : Sl × En} {v : V} {A : List Addr} (g : Go K S F σ H F1 ρ1 H1) (p : PostE K S F1 σ H1 r v H' F' A) : PostE K S F σ H r v H' F' A := by
  refine ⟨p.env, p.res, g.fr.trans p.fr, fun i => ?_, fun a ha => ?_, p.apart⟩
  · rcases p.sub i with e | e
    · rw [e]; exact g.sub i
    · exact .inr e
  · rcases p.new a ha with ⟨j, z⟩ | z
    · exact g.fr.new j a z
    · cases q : H a with
      | none => exact .inr rfl
      | some o => exact absurd z (g.fr.there a (by rw [q]; exact Option.some_ne_none _))
end
section
variable {X : Cx} {cl : CallS} {N : List Str} {sc st : Scope}
/-- the dict in slot i is locked -/
def Lk (i : Nat) : L2.St → Hp → Prop := fun σ H => ∃ d o kvs, σ[i]? = some (some (.ref d)) ∧ H d = some (.frz o (.dK kvs))
def Lkd : It → L2.St → Hp → Prop
  | .items i | .keys i => Lk i
  | _ => fun _ _ => True
def tIL (K : PySem.W.Frag) (cl : CallS) (it : It) : TI := fun σ H R => Lkd it σ H ∧ tI K (evI cl it) σ H R
theorem pi_w {tg e : Expr} {t t' : TI} (h : PI X tg e t) (w : ∀ σ H R, t' σ H R → t σ H R) : PI X tg e t' := ⟨fun pins s σ H R I q => h.run pins s σ H R I (w σ H R q)⟩
/-- a dict is in slot i, a shared one or one of the slot's own; then the same from the shared one -/
def Shd {α : Type} (f : En → Option α) (i : Nat) : Prop := ∀ ρ r, f ρ = some r → ∃ es, rd ρ i = some (.sh, .dict es) ∨ (rd ρ i = some (.own, .dict es) ∧ f (ρ.set i (some (.sh, .dict es))) = some r)
theorem rd_shared {ρ : En} {i : Nat} {es : List (Dt × Dt)} (h : rd ρ i = some (.own, .dict es)) : rd (ρ.set i (some (.sh, .dict es))) i = some (.sh, .dict es) := by
  have : i < ρ.length := rd_lt h
  unfold rd
  rw [List.getElem?_set_self this]
  rfl
theorem lockE {e : Expr} {f : En → Option (Sl × En)} {i : Nat} (h : PE X e (fun σ H Q => Lk i σ H ∧ tD X.K f σ H Q)) (hf : Shd f i) : PE X e (tD X.K f) := by
  -- from a shared one
  have key : ∀ (pins : List (Addr × Obj)) (s : Shared) (σ : L2.St) (H : Hp) (Q : VK) (S : Addr → Prop) (F : Fs) (ρ : En) (r : Sl × En) (es : List (Dt × Dt)), L2.Inv X pins σ H s → EnvOk X.K S F ρ σ H → f ρ = some r → rd ρ i = some (.sh, .dict es) →
      (∀ v H' F' A, PostE X.K S F σ H r v H' F' A → Q v H') → wpAny (model X.prog X.w) X.A (eval e X.env) (EP X pins σ Q) X.xe s := by
    intro pins s σ H Q S F ρ r es I e0 h1 hr h2
    obtain ⟨v, hv, q⟩ := e0.slot i _ _ hr
    generalize F i = A at q
    cases q with
    | sh q =>
      obtain ⟨a, kvs, rfl, ⟨hd, hw⟩, rk⟩ := q
      rcases hd with hd | ⟨o, hd⟩
      · refine (pe_lock h).run pins s σ H Q I ⟨a, .dK kvs, hd, trivial, fun od => ⟨⟨a, od, kvs, hv, upd_same⟩, S, F, ρ, r, e0.lock hd hw, h1, fun v H' F' A p => ?_⟩⟩
        obtain ⟨k1, k2⟩ := p.unlock hd hw
        exact ⟨k1, h2 _ _ _ _ k2⟩
      · exact h.run pins s σ H Q I ⟨⟨a, o, kvs, hv, hd⟩, S, F, ρ, r, e0, h1, h2⟩
  refine ⟨fun pins s σ H Q I ⟨S, F, ρ, r, e0, h1, h2⟩ => ?_⟩
  obtain ⟨es, hr | ⟨hr, h3⟩⟩ := hf ρ r h1
  · exact key pins s σ H Q S F ρ r es I e0 h1 hr h2
  · obtain ⟨v, hv, e', q⟩ := e0.share hr
    exact key pins s σ H Q S _ _ r es I e' h3 (rd_shared hr) fun v' H' F' A p => h2 v' H' F' A (p.after ⟨e', setF_fr, setF_sub⟩)
theorem items_wk {W0 : Addr → Prop} {H0 : Hp} {d : Addr} {o : Obj} {kvs : List (Key × V)} {es : List (Dt × Dt)} {K : PySem.W.Frag} (hd : H0 d = some (.frz o (.dK kvs))) (hw : ¬ W0 d) (r : RepKv K W0 H0 es kvs) : WK K W0 H0 (Iti d o kvs) (es.map fun p => .tuple [p.1, p.2]) where
  goes := fun i H hi k => ⟨k _ _ hd hw, by rw [List.length_map, r.len] at hi; exact hi⟩
  stops := fun H k => ⟨k _ _ hd hw, by rw [List.length_map, r.len]; exact Nat.le_refl _⟩
  yields := fun i H x H' hi k y => by
    obtain ⟨T, kk, v, hk, rfl, hT, rfl⟩ := y
    obtain ⟨p, hp, e1, rv⟩ := r.getK hk
    refine ⟨.tuple [p.1, p.2], by rw [List.getElem?_map, hp]; rfl, same_upd hT, fun W' w1 w2 => ?_⟩
    refine pair_new hT w2 ?_ (rv.step k w1)
    rw [e1]
    cases kk <;> rfl
theorem keys_wk {W0 : Addr → Prop} {H0 : Hp} {d : Addr} {o : Obj} {kvs : List (Key × V)} {es : List (Dt × Dt)} {K : PySem.W.Frag} (hd : H0 d = some (.frz o (.dK kvs))) (hw : ¬ W0 d) (r : RepKv K W0 H0 es kvs) : WK K W0 H0 (Itk d o kvs) (es.map fun p => p.1) where
  goes := fun i H hi k => ⟨k _ _ hd hw, by rw [List.length_map, r.len] at hi; exact hi⟩
  stops := fun H k => ⟨k _ _ hd hw, by rw [List.length_map, r.len]; exact Nat.le_refl _⟩
  yields := fun i H x H' hi k y => by
    obtain ⟨rfl, kk, v, hk, rfl⟩ := y
    obtain ⟨p, hp, e1, rv⟩ := r.getK hk
    refine ⟨p.1, by rw [List.getElem?_map, hp]; rfl, same_refl, fun W' w1 w2 => ?_⟩
    rw [e1]
    cases kk <;> rfl
theorem rd_dict {S : Addr → Prop} {F : Fs} {ρ : En} {σ : L2.St} {H : Hp} {i : Nat} {es : List (Dt × Dt)} (e : EnvOk X.K S F ρ σ H) (hr : rd ρ i = some (.sh, .dict es)) (hl : Lk i σ H) : ∃ d o kvs, σ[i]? = some (some (.ref d)) ∧ H d = some (.frz o (.dK kvs)) ∧ ¬ Wt S F d ∧ RepKv X.K (Wt S F) H es kvs := by
  obtain ⟨d, o, kvs, hv, hd⟩ := hl
  obtain ⟨v, hv', q⟩ := e.slot i _ _ hr
  rw [hv] at hv'
  cases hv'
  generalize F i = A at q
  cases q with
  | sh q =>
    obtain ⟨a, kvs', ea, ⟨hd', hw⟩, rk⟩ := q
    cases ea
    rcases hd' with hd' | ⟨o', hd'⟩
    · rw [hd] at hd'; cases hd'
    · rw [hd] at hd'; cases hd'
      exact ⟨d, o, kvs, hv, hd, hw, rk⟩
theorem lk_sh {S : Addr → Prop} {F : Fs} {ρ : En} {σ : L2.St} {H : Hp} {i : Nat} {es : List (Dt × Dt)} (e : EnvOk X.K S F ρ σ H) (hr : rd ρ i = some (.own, .dict es)) (hl : Lk i σ H) : False := by
  obtain ⟨d, o, kvs, hv, hd⟩ := hl
  obtain ⟨v, hv', q⟩ := e.slot i _ _ hr
  rw [hv] at hv'
  cases hv'
  generalize F i = A at q
  cases q with
  | dct q _ => rw [hd] at q; cases q
theorem pi_items_ (g : Gd cl N sc st X) {i : Nat} {n : Expr} {es : List Expr} {kk : Nat} {tpos ap cp : Pos} (hn : chkNm N sc i n = true) (hl : (ap.endLine == cp.line) = true) : PI X (.Tuple es kk tpos) (.Call (.Attribute n "items" ap) [] [] cp) (tIL X.K cl (.items i)) := by
  refine pi_w (pi_items (pe_nm g hn) (attrNm hn _ _) hl) fun σ H R ⟨lk, S, F, ρ, r, e, h1, h2⟩ => ?_
  simp only [evI] at h1
  split at h1
  · rename_i kvs hr
    cases h1
    obtain ⟨d, o, vs, hv, hd, hw, rk⟩ := rd_dict e hr lk
    exact ⟨_, hv, d, o, vs, rfl, hd, h2 _ H F (Go.refl e) (items_wk hd hw rk)⟩
  · rename_i kvs hr
    exact (lk_sh e hr lk).elim
  · cases h1
theorem pi_keys_ (g : Gd cl N sc st X) {i : Nat} {n tg : Expr} (hn : chkNm N sc i n = true) : PI X tg n (tIL X.K cl (.keys i)) := by
  refine pi_w (pi_keys (pe_nm g hn)) fun σ H R ⟨lk, S, F, ρ, r, e, h1, h2⟩ => ?_
  simp only [evI] at h1
  split at h1
  · rename_i kvs hr
    cases h1
    obtain ⟨d, o, vs, hv, hd, hw, rk⟩ := rd_dict e hr lk
    exact ⟨_, hv, d, o, rfl, .inl ⟨vs, hd, h2 _ H F (Go.refl e) (keys_wk hd hw rk)⟩⟩
  · rename_i kvs hr
    exact (lk_sh e hr lk).elim
  · cases h1
theorem shd_I {it : It} {i : Nat} (hi : it = .items i ∨ it = .keys i) {α : Type} {f : En → Option α} {k : List Dt × En → Option α} (hf : ∀ ρ, f ρ = (evI cl it ρ).bind k) : Shd f i := by
  intro ρ r h
  rw [hf] at h
  obtain ⟨q, h1, h2⟩ := bindS h
  rcases hi with rfl | rfl
  · simp only [evI] at h1
    split at h1
    · rename_i es hr; exact ⟨es, .inl hr⟩
    · rename_i es hr
      cases h1
      refine ⟨es, .inr ⟨hr, ?_⟩⟩
      rw [hf]
      simp only [evI, rd_shared hr, Option.bind_some]
      exact h2
    · cases h1
  · simp only [evI] at h1
    split at h1
    · rename_i es hr; exact ⟨es, .inl hr⟩
    · rename_i es hr
      cases h1
      refine ⟨es, .inr ⟨hr, ?_⟩⟩
      rw [hf]
      simp only [evI, rd_shared hr, Option.bind_some]
      exact h2
    · cases h1
/-- an expression that goes over something -/
theorem lockIt {it : It} {e : Expr} {f : En → Option (Sl × En)} {k : List Dt × En → Option (Sl × En)} (h : PE X e (fun σ H Q => Lkd it σ H ∧ tD X.K f σ H Q)) (hf : ∀ ρ, f ρ = (evI cl it ρ).bind k) : PE X e (tD X.K f) := by
  cases it with
  | items i => exact lockE h (shd_I (.inl rfl) hf)
  | keys i => exact lockE h (shd_I (.inr rfl) hf)
  | _ => exact pe_w h fun σ H Q q => ⟨trivial, q⟩
end
end Mini

end
section
set_option Elab.async false
set_option linter.all false
set_option maxRecDepth 100000
set_option maxHeartbeats 4000000
/-! Mini, part 15d: dicts made, asked, listed. -/
namespace Mini
open PySem PySem.Spec PyProof.Rows L2
section
variable {X : Cx} {cl : CallS} {N : List Str} {sc st : Scope} {a b c : E} {x y n : Expr} {ap cp pos p : Pos}
theorem attrN {n : Expr} (h : isNm n = true) (m : Str) (env : Env) : attributeBase n m env (eval n env) = eval n env := by
  cases n <;> first | rfl | cases h
theorem get_later {S : Addr → Prop} {F F1 F2 : Fs} {σ : L2.St} {H H1 H2 : Hp} {r : Sl × En} {v : V} {A : List Addr} {kvs : List (Dt × Dt)} {ρ2 : En} {k : Dt} {yv : V} (q : PostE X.K S F σ H r v H1 F1 A) (hr : read? r.1.1 = true) (hd : r.1.2 = .dict kvs) (g : Go X.K S F1 σ H1 F2 ρ2 H2) (hp : ∀ i, r.1.1 = .bo i → ρ2 = r.2)
    (hk : isKey k = true) (ry : Rep X.K (Wt S F2) H2 k yv) : ∃ (ad : Addr) (o : Option V), v = .ref ad ∧ DGet H2 ad yv o ∧ ((kvGet kvs k = none ∧ o = none) ∨ ∃ d' v', kvGet kvs k = some d' ∧ o = some v' ∧ Rep X.K (Wt S F2) H2 d' v') := by
  have l := q.later hr g hp
  rw [hd] at l
  obtain ⟨ad, ks, rfl, rd, rk⟩ := l
  obtain ⟨kk, rfl⟩ := keyOf hk
  have e : yv = kV kk := by cases kk <;> exact ry
  subst e
  refine ⟨ad, _, rfl, .inl ⟨_, _, rd, rfl, rfl⟩, ?_⟩
  rcases rk.get (k := kk) with ⟨n1, n2⟩ | ⟨d', v', n1, n2, rr⟩
  · exact .inl ⟨n1, n2⟩
  · exact .inr ⟨d', v', n1, n2, rr⟩
theorem get_isD {S : Addr → Prop} {F F1 : Fs} {σ : L2.St} {H H1 : Hp} {r : Sl × En} {v : V} {A : List Addr} {kvs : List (Dt × Dt)} (q : PostE X.K S F σ H r v H1 F1 A) (hr : read? r.1.1 = true) (hd : r.1.2 = .dict kvs) : ∃ ad : Addr, v = .ref ad ∧ IsD H1 ad := by
  have l := q.now hr
  rw [hd] at l
  obtain ⟨ad, ks, rfl, rd, rk⟩ := l
  exact ⟨ad, rfl, .inl ⟨_, rd⟩⟩
theorem pe_get1_ (g : Gd cl N sc st X) (hn : isNm n = true) (hl : (ap.endLine == cp.line) = true) (hx : chkE N sc b x = true) (ha : PE X n (tD X.K (ev cl a))) (hb : PE X x (tD X.K (ev cl b))) :
    PE X (.Call (.Attribute n "get" ap) [x] [] cp) (tD X.K (ev cl (.m1 .get a b))) := by
  have hu : X.A.units + 1 < cLine := by have := g.room; omega
  refine pe_w (pe_dget1 hu ha (pe_k hb) ⟨attrN hn _ _, by rw [noStar hx]; rfl, hl, by rw [noStar hx]; rfl⟩) fun σ H Q ⟨S, F, ρ, r, e, h1, h2⟩ => ?_
  simp only [ev] at h1
  obtain ⟨r1, e1, h1⟩ := bindS h1
  obtain ⟨c1, h1⟩ := iteS h1
  obtain ⟨c1, c2⟩ := and2 c1
  obtain ⟨q1, e2, h1⟩ := bindS h1
  obtain ⟨z, e3, rfl⟩ := mapS h1
  unfold m1D at e3
  split at e3
  · rename_i kvs k hd
    by_cases hk : isKey q1.1 = true
    case neg => rw [if_neg hk] at e3; cases e3
    rw [if_pos hk] at e3
    cases e3
    refine ⟨S, F, ρ, r1, e, e1, fun v H1 F1 A1 p1 => ?_⟩
    obtain ⟨ad, rfl, isd⟩ := get_isD p1 c1 hd
    refine ⟨ad, rfl, isd, S, F1, r1.2, q1, p1.go.env, e2, fun yv H2 F2 p2 => ?_⟩
    have pe : ∀ i, r1.1.1 = .bo i → q1.2 = r1.2 := fun i hi => by
      rw [hi] at c2
      obtain ⟨w, ew, _, rfl⟩ := keepS_snd e2
      exact pure_ev cl b _ w c2 ew
    obtain ⟨ad', o, ea, dg, alt⟩ := get_later p1 c1 hd p2.go pe hk p2.rep
    cases ea
    refine ⟨o, dg, h2 _ _ _ _ ((p1.go.trans p2.go).shared ?_)⟩
    rcases alt with ⟨n1, rfl⟩ | ⟨d', v', n1, rfl, rr⟩
    · rw [n1]; exact rfl
    · rw [n1]; exact rr
  · cases e3
theorem pe_get2_ (g : Gd cl N sc st X) (hn : isNm n = true) (hl : (ap.endLine == cp.line) = true) (hx : chkE N sc b x = true) (hy : chkE N sc c y = true) (ha : PE X n (tD X.K (ev cl a))) (hb : PE X x (tD X.K (ev cl b))) (hc : PE X y (tD X.K (ev cl c))) :
    PE X (.Call (.Attribute n "get" ap) [x, y] [] cp) (tD X.K (ev cl (.get2 a b c))) := by
  have hu : X.A.units + 1 < cLine := by have := g.room; omega
  refine pe_w (pe_dget2 hu ha (pe_k hb) (pe_k hc) ⟨attrN hn _ _, by rw [noStar hx, noStar hy]; rfl, hl, by rw [noStar hx, noStar hy]; rfl⟩) fun σ H Q ⟨S, F, ρ, r, e, h1, h2⟩ => ?_
  simp only [ev] at h1
  obtain ⟨r1, e1, h1⟩ := bindS h1
  obtain ⟨c1, h1⟩ := iteS h1
  obtain ⟨c1, c2, c3⟩ := and3 c1
  obtain ⟨q1, e2, h1⟩ := bindS h1
  obtain ⟨t1, e3, h1⟩ := bindS h1
  obtain ⟨z, e4, rfl⟩ := mapS h1
  unfold get2D at e4
  split at e4
  · rename_i kvs k d0 hd
    by_cases hk : isKey q1.1 = true
    case neg => rw [if_neg hk] at e4; cases e4
    rw [if_pos hk] at e4
    cases e4
    refine ⟨S, F, ρ, r1, e, e1, fun v H1 F1 A1 p1 => ?_⟩
    obtain ⟨ad, rfl, isd⟩ := get_isD p1 c1 hd
    refine ⟨ad, rfl, isd, S, F1, r1.2, q1, p1.go.env, e2, fun yv H2 F2 p2 => ⟨S, F2, q1.2, t1, p2.go.env, e3, fun zv H3 F3 p3 => ?_⟩⟩
    have pe : ∀ i, r1.1.1 = .bo i → t1.2 = r1.2 := fun i hi => by
      rw [hi] at c2 c3
      obtain ⟨w, ew, _, rfl⟩ := keepS_snd e2
      obtain ⟨w', ew', _, rfl⟩ := keepS_snd e3
      have z1 := pure_ev cl b _ w c2 ew
      have z2 := pure_ev cl c _ w' c3 ew'
      exact z2.trans z1
    obtain ⟨ad', o, ea, dg, alt⟩ := get_later p1 c1 hd (p2.go.trans p3.go) pe hk (p3.go.rep p2.rep)
    cases ea
    refine ⟨o, dg, h2 _ _ _ _ ((p1.go.trans (p2.go.trans p3.go)).shared ?_)⟩
    rcases alt with ⟨n1, rfl⟩ | ⟨d', v', n1, rfl, rr⟩
    · rw [n1]; exact p3.rep
    · rw [n1]; exact rr
  · cases e4
theorem EnvOk.grow' {S : Addr → Prop} {F : Fs} {ρ : En} {σ : L2.St} {H H' : Hp} {p : Addr} {K : PySem.W.Frag} (e : EnvOk K S F ρ σ H) (sm : Same H H') (h : H p = none) (ho : mu H' p) : EnvOk K (addS S [p]) F ρ σ H' := by
  have e' := e.same sm
  have sub : ∀ a, Wt (addS S [p]) F a → Wt S F a ∨ H a = none := fun a z => by
    rcases z with (z | z) | z
    · exact .inl (.inl z)
    · rw [List.mem_singleton.mp z]; exact .inr h
    · exact .inl (.inr z)
  refine ⟨e.len, fun i fl d q => ?_, e.emp, e.dis, fun i a ha z => ?_, fun a z => ?_⟩
  · obtain ⟨v, hv, r⟩ := e.slot i fl d q
    refine ⟨v, hv, r.step (fun b o q _ => sm b o q) sub (fun a z => ?_) e.wt⟩
    have := (r.mus a z).ne
    cases ha : H a with
    | none => exact absurd ha this
    | some o => exact sm a o ha
  · rcases z with z | z
    · exact e.ext i a ha z
    · rw [List.mem_singleton.mp z] at ha
      exact e.wfree h (.inr ⟨i, ha⟩)
  · rcases z with z | z
    · exact e'.wf a z
    · rw [List.mem_singleton.mp z]; exact ho
theorem pairs_reps {W : Addr → Prop} {H H' : Hp} {K : PySem.W.Frag} (hs : ∀ b o, H b = some o → ¬ W b → H' b = some o) {W' : Addr → Prop} (hw : ∀ a, W' a → W a ∨ H a = none) : ∀ {ts : List Addr} {kvs : List (Key × V)} {es : List (Dt × Dt)}, Paired (fun (t : Addr) (q : Key × V) => H' t = some (.tup [kV q.1, q.2])) ts kvs → (∀ t ∈ ts, ¬ W' t) → RepKv K W H es kvs →
    Reps K W' H' (es.map fun p => PyData.tuple [p.1, p.2]) (ts.map V.ref)
  | _, _, [], p, _, r => by
    rw [show _ = _ from r] at p
    cases p
    rfl
  | _, _, (kd, d) :: es, p, n, ⟨k, v, q, e, e1, r, rs⟩ => by
    subst e e1
    cases p with
    | cons ht pt =>
      rename_i t ts
      refine ⟨.ref t, _, rfl, ⟨t, _, rfl, .inl ⟨ht, n t (List.mem_cons_self ..)⟩, ?_⟩, pairs_reps hs hw pt (fun t ht => n t (List.mem_cons_of_mem _ ht)) rs⟩
      exact ⟨_, _, rfl, by cases k <;> exact rfl, _, _, rfl, r.step hs hw, rfl⟩
theorem pe_litems_ (g : Gd cl N sc st X) {i : Nat} {n' : Expr} (hg : chkGl sc "list" n' = true) (hl : (ap.endLine == cp.line) = true) (hn : chkNm N sc i n = true) :
    PE X (.Call n' [.Call (.Attribute n "items" ap) [] [] cp] [] pos) (tD X.K (ev cl (.litems i))) := by
  obtain ⟨p, rfl, k1, k2⟩ := chkGl_ok hg
  refine pe_w (LiI.pe_listItems g.calm (pe_nm g hn) (g.gl k1) (g.free _ (by simp [freeN])) rfl (attrNm hn _ _) hl rfl) fun σ H Q ⟨S, F, ρ, r, e, h1, h2⟩ => ?_
  simp only [ev] at h1
  split at h1
  · rename_i es hr
    split at h1 <;> cases h1
    rename_i hz
    obtain ⟨v, hv, q⟩ := e.slot i _ _ hr
    generalize F i = A at q
    cases q with
    | dct hd rk =>
      rename_i a kvs
      refine ⟨_, hv, a, kvs, rfl, hd, fun H' p ts hs hp hts hpt hH pa => ?_⟩
      have sm : Same H H' := hs
      refine h2 _ _ F [p] ⟨e.grow' sm hp (.inl ⟨_, hH⟩), .slot rfl (.lst hH (pairs_reps (fun b o z _ => hs b o z) (fun a z => ?_) pa (fun t ht z => ?_) rk)), Fr.same sm, fun _ => .inl rfl, fun a ha => ?_, fun a ha => ?_⟩
      · rcases z with (z | z) | z
        · exact .inl (.inl z)
        · rw [List.mem_singleton.mp z]; exact .inr hp
        · exact .inl (.inr z)
      · rcases z with (z | z) | z
        · exact e.wfree (hts t ht) (.inl z)
        · exact hpt (List.mem_singleton.mp z ▸ ht)
        · exact e.wfree (hts t ht) (.inr z)
      · rw [List.mem_singleton.mp ha]; exact .inr hp
      · rw [List.mem_singleton.mp ha]; exact fun z => e.wfree hp (.inl z)
  · cases h1
theorem RepKv.any {K : PySem.W.Frag} {W : Addr → Prop} {H : Hp} {k : Key} : ∀ {es : List (Dt × Dt)} {kvs : List (Key × V)}, RepKv K W H es kvs → es.any (fun p => eqK p.1 (keyD k)) = kvs.any (fun kv => decide (kv.1 = k))
  | [], _, r => by rw [show _ = _ from r]; rfl
  | (kd, d) :: es, _, ⟨j, v, q, e, e1, r, rs⟩ => by
    subst e e1
    simp only [List.any_cons, eqK_key]
    rw [RepKv.any rs]
theorem RepKv.map {K : PySem.W.Frag} {W : Addr → Prop} {H : Hp} {k : Key} {d : Dt} {v : V} (rv : Rep K W H d v) : ∀ {es : List (Dt × Dt)} {kvs : List (Key × V)}, RepKv K W H es kvs →
    RepKv K W H (es.map fun p => if eqK p.1 (keyD k) = true then (p.1, d) else p) (kvs.map fun kv => if kv.1 = k then (kv.1, v) else kv)
  | [], _, r => by rw [show _ = _ from r]; rfl
  | (kd, d') :: es, _, ⟨j, v', q, e, e1, r, rs⟩ => by
    subst e e1
    show RepKv K W H ((if eqK (keyD j) (keyD k) = true then (keyD j, d) else (keyD j, d')) :: _) ((if j = k then (j, v) else (j, v')) :: _)
    rw [eqK_key]
    by_cases h : j = k
    · rw [if_pos h, if_pos (decide_eq_true h)]
      exact ⟨j, v, _, rfl, rfl, rv, RepKv.map rv rs⟩
    · rw [if_neg h, if_neg (by simpa using h)]
      exact ⟨j, v', _, rfl, rfl, r, RepKv.map rv rs⟩
theorem RepKv.snoc {K : PySem.W.Frag} {W : Addr → Prop} {H : Hp} {k : Key} {d : Dt} {v : V} (rv : Rep K W H d v) : ∀ {es : List (Dt × Dt)} {kvs : List (Key × V)}, RepKv K W H es kvs → RepKv K W H (es ++ [(keyD k, d)]) (kvs ++ [(k, v)])
  | [], _, r => by rw [show _ = _ from r]; exact ⟨k, v, [], rfl, rfl, rv, rfl⟩
  | (kd, d') :: es, _, ⟨j, v', q, e, e1, r, rs⟩ => by
    subst e e1
    exact ⟨j, v', _, rfl, rfl, r, RepKv.snoc rv rs⟩
theorem RepKv.put {K : PySem.W.Frag} {W : Addr → Prop} {H : Hp} {k : Key} {d : Dt} {v : V} {es : List (Dt × Dt)} {kvs : List (Key × V)} (r : RepKv K W H es kvs) (rv : Rep K W H d v) : RepKv K W H (kvPut es (keyD k) d) (L2.putK kvs k v) := by
  unfold kvPut L2.putK
  rw [r.any]
  split
  · exact r.map rv
  · exact r.snoc rv
/-! ### displays -/
def keyK : Int ⊕ Str → Key
  | .inl i => .inl i
  | .inr s => .inr s
def zipKV (ks : List (Int ⊕ Str)) (ws : List V) : List (Key × V) := (ks.zip ws).map fun p => (keyK p.1, p.2)
/-- the values of a display, by written keys -/
structure Dsp (X : Cx) (cl : CallS) (pos : Pos) (ks : List (Int ⊕ Str)) (vs : Es) (kx : List (Option Expr)) (vx : List Expr) (trs : List (TE × TE)) : Prop where
  pps : PPs X pos kx vx trs
  run : ∀ σ H (Q : List (V × V) → Hp → Prop) S F ρ r, EnvOk X.K S F ρ σ H → evL cl vs ρ = some r → (∀ ws H' F', Go X.K S F σ H F' r.2 H' → Reps X.K (Wt S F') H' r.1 ws → Q ((zipKV ks ws).map fun kv => (kV kv.1, kv.2)) H') → tPairs trs σ H Q
  somes : kx.all (·.isSome) = true
  len : kx.length = vx.length
  lenk : ks.length = kx.length
theorem dsp_nil : Dsp X cl pos [] .nil [] [] [] := ⟨pps_nil, fun σ H Q S F ρ r e h1 h2 => by
  simp only [evL] at h1
  cases h1
  exact h2 [] H F (Go.refl e) rfl, rfl, rfl, rfl⟩
theorem dsp_cons {k : Int ⊕ Str} {ks : List (Int ⊕ Str)} {vs : Es} {kx : List (Option Expr)} {vx : List Expr} {trs : List (TE × TE)} {ke : Expr} (hk : PE X ke (tC (kV (keyK k)))) (ha : PE X x (tD X.K (ev cl a))) (d : Dsp X cl pos ks vs kx vx trs) :
    Dsp X cl pos (k :: ks) (.cons a vs) (some ke :: kx) (x :: vx) ((tC (kV (keyK k)), tK X.K fun ρ => keepS (ev cl a ρ)) :: trs) := by
  refine ⟨pps_cons hk (pe_k ha) d.pps, fun σ H Q S F ρ r e h1 h2 => ?_, by simpa using d.somes, by simp [d.len], by simp [d.lenk]⟩
  simp only [evL] at h1
  obtain ⟨p, e1, h1⟩ := bindS h1
  obtain ⟨q, e2, rfl⟩ := mapS h1
  show tK X.K (fun ρ => keepS (ev cl a ρ)) σ H _
  refine ⟨S, F, ρ, p, e, e1, fun v H1 F1 p1 => ?_⟩
  exact d.run σ H1 _ S F1 p.2 q p1.go.env e2 fun ws H2 F2 g2 r2 => h2 _ _ _ (p1.go.trans g2) (.cons (g2.rep p1.rep) r2)
theorem putK_rep {K : PySem.W.Frag} {W : Addr → Prop} {H : Hp} : ∀ {ks : List (Int ⊕ Str)} {ds : List Dt} {ws : List V} {es : List (Dt × Dt)} {kvs : List (Key × V)}, Reps K W H ds ws → RepKv K W H es kvs →
    RepKv K W H ((ks.zip ds).foldl (fun es p => kvPut es (keyO p.1) p.2) es) ((zipKV ks ws).foldl (fun es p => putK es p.1 p.2) kvs)
  | [], _, _, _, _, _, q => q
  | k :: ks, [], _, _, _, r, q => by
    rw [show _ = _ from r]
    exact q
  | k :: ks, d :: ds, _, es, kvs, ⟨w, ws, e, rw_, rs⟩, q => by
    subst e
    have e2 : keyO k = keyD (keyK k) := by cases k <;> rfl
    show RepKv K W H ((ks.zip ds).foldl (fun es p => kvPut es (keyO p.1) p.2) (kvPut es (keyO k) d)) ((zipKV ks ws).foldl (fun es p => putK es p.1 p.2) (putK kvs (keyK k) w))
    rw [e2]
    exact putK_rep rs (q.put rw_)
theorem pe_dict0_ : PE X (.Dict [] [] pos) (tD X.K (ev cl (.dict [] .nil))) := pe_w pe_dnewK fun σ H Q ⟨S, F, ρ, r, e, h1, h2⟩ p hp => by
  have h1' : some ((Fl.own, PyData.dict []), ρ) = some r := h1
  cases h1'
  obtain ⟨A, q⟩ := (NewV.dct (K := X.K) (W := Wt S F) (es := []) (kvs := []) hp rfl).post (Go.refl e)
  exact h2 _ _ _ _ q
theorem pe_dict_ {ks : List (Int ⊕ Str)} {vs : Es} {kx : List (Option Expr)} {vx : List Expr} {trs : List (TE × TE)} (h0 : kx ≠ []) (d : Dsp X cl pos ks vs kx vx trs) : PE X (.Dict kx vx pos) (tD X.K (ev cl (.dict ks vs))) := by
  by_cases h15 : ks.length ≤ 15
  · refine pe_w (pe_disp d.pps d.somes d.len h0 (by rw [← d.lenk]; exact h15)) fun σ H Q ⟨S, F, ρ, r, e, h1, h2⟩ p hp => ?_
    simp only [ev] at h1
    obtain ⟨q, e1, h1⟩ := bindS h1
    obtain ⟨c1, h1⟩ := iteS h1
    cases h1
    obtain ⟨c1, _⟩ := and2 c1
    have e0 := e.grow hp (o := .dK []) (.inr ⟨_, upd_same⟩)
    have sm := same_upd (o := .dK []) hp
    refine d.run σ _ _ _ F ρ q e0 e1 fun ws H2 F2 g2 r2 => ?_
    have hp2 : H2 p = some (.dK []) := g2.fr.keep p _ upd_same fun i hi => e0.ext i p hi (.inr (List.mem_singleton.mpr rfl))
    refine ⟨hp2, zipKV ks ws, rfl, ?_, ?_⟩
    · unfold zipKV
      rw [List.length_map, List.length_zip]
      omega
    · have e4 := g2.env.putS (a := p) (o := .dK (mergeK [] (zipKV ks ws))) (.inr (List.mem_singleton.mpr rfl)) (.inr ⟨_, upd_same⟩)
      have none_of : ∀ b, (∃ j, b ∈ F j) ∨ upd H p (.dK []) b = none → (∃ j, b ∈ F j) ∨ H b = none := fun b z => z.imp id fun z => by
        by_cases hb : b = p
        · subst hb; exact hp
        · rw [upd_ne hb] at z; exact z
      have rk : RepKv X.K (Wt (addS S [p]) F2) H2 (kvZip ks q.1) (mergeK [] (zipKV ks ws)) := putK_rep r2 rfl
      refine h2 _ _ F2 [p] ⟨e4, .slot rfl (.dct upd_same (rk.step (fun b o z n => ?_) fun a z => .inl z)), ⟨fun b o hb n => ?_, fun i b hb => ?_, fun b hb => ?_⟩, g2.sub, fun a ha => ?_, fun a ha => ?_⟩
      · rw [upd_ne fun z2 => n (.inl (.inr (List.mem_singleton.mpr z2)))]
        exact z
      · rw [upd_ne (ne_of_none hb hp)]
        exact g2.fr.keep b o (sm b o hb) n
      · exact none_of b (g2.fr.new i b hb)
      · have hbp : b ≠ p := fun z => hb (by rw [z]; exact hp)
        rw [upd_ne hbp]
        refine g2.fr.there b ?_
        rw [upd_ne hbp]
        exact hb
      · rw [List.mem_singleton.mp ha]; exact .inr hp
      · rw [List.mem_singleton.mp ha]; exact fun z => e.wfree hp (.inl z)
  · refine ⟨fun pins s σ H Q I ⟨S, F, ρ, r, e, h1, h2⟩ => ?_⟩
    exfalso
    simp only [ev] at h1
    obtain ⟨q, e1, h1⟩ := bindS h1
    obtain ⟨c1, h1⟩ := iteS h1
    obtain ⟨_, c2⟩ := and2 c1
    exact h15 (of_decide_eq_true c2)
end
end Mini

end
section
set_option Elab.async false
set_option linter.all false
set_option maxRecDepth 100000
set_option maxHeartbeats 4000000
/-! Mini, part 16: comprehensions. -/
namespace Mini
open PySem PySem.Spec PyProof.Rows L2
/-- what is told of the object that is built -/
abbrev ARel := (Addr → Prop) → Hp → HO → Prop
structure ARStep (AR : ARel) : Prop where
  step : ∀ (W : Addr → Prop) (H : Hp) (W' : Addr → Prop) (H' : Hp) (o : HO), (∀ b u, H b = some u → ¬ W b → H' b = some u) → (∀ a, W' a → W a ∨ H a = none) → AR W H o → AR W' H' o
/-- in a comprehension: D is being built -/
structure CI (K : PySem.W.Frag) (S : Addr → Prop) (F1 : Fs) (H1 : Hp) (D : Addr) (AR : ARel) (σw : L2.St) (Fi : Fs) (ρi : En) (Hi : Hp) : Prop where
  env : EnvOk K (addS S [D]) Fi ρi σw Hi
  fr : Fr F1 H1 Fi Hi
  sub : ∀ j, Fi j = F1 j ∨ Fi j = []
  obj : ∃ o, Hi D = some o ∧ AR (Wt (addS S [D]) Fi) Hi o
section
variable {K : PySem.W.Frag} {S : Addr → Prop} {F1 Fi F2 F4 : Fs} {H1 Hi H' H4 : Hp} {D : Addr} {AR AR' : ARel} {σw σ2 : L2.St} {ρi ρ2 ρ4 : En} {own : List Nat}
theorem CI.kp (c : CI K S F1 H1 D AR σw Fi ρi Hi) : ∀ b o, H1 b = some o → ¬ Wt S F1 b → Hi b = some o := fun b o e n => c.fr.keep b o e fun i z => n (.inr ⟨i, z⟩)
theorem CI.wt (c : CI K S F1 H1 D AR σw Fi ρi Hi) (hD : H1 D = none) : ∀ a, Wt (addS S [D]) Fi a → Wt S F1 a ∨ H1 a = none := fun a z => by
  rcases z with (z | z) | ⟨i, z⟩
  · exact .inl (.inl z)
  · rw [List.mem_singleton.mp z]; exact .inr hD
  · rcases c.fr.new i a z with ⟨j, q⟩ | q
    · exact .inl (.inr ⟨j, q⟩)
    · exact .inr q
theorem CI.emp (c : CI K S F1 H1 D AR σw Fi ρi Hi) {i : Nat} (h : F1 i = []) : Fi i = [] := by
  rcases c.sub i with e | e
  · rw [e]; exact h
  · exact e
theorem CI.turn (c : CI K S F1 H1 D AR σw Fi ρi Hi) (hA : ARStep AR) (sm : Same Hi H') (g : Go K (addS S [D]) Fi σ2 H' F4 ρ4 H4) (h0 : ∀ i ∈ own, F1 i = []) (hw : L2.wipe σ2 own = σw) : CI K S F1 H1 D AR σw F4 (wipe ρ4 own) H4 := by
  have s4 : ∀ j, F4 j = F1 j ∨ F4 j = [] := fun j => by
    rcases g.sub j with e | e
    · rw [e]; exact c.sub j
    · exact .inr e
  have ke : ∀ b u, Hi b = some u → ¬ Wt (addS S [D]) Fi b → H4 b = some u := fun b u e n => g.fr.keep b u (sm b u e) fun i z => n (.inr ⟨i, z⟩)
  refine ⟨?_, (c.fr.trans (Fr.same sm)).trans g.fr, s4, ?_⟩
  · rw [← hw]
    refine g.env.wipe own fun i hi => ?_
    rcases s4 i with e | e
    · rw [e]; exact h0 i hi
    · exact e
  · obtain ⟨o, ho, r⟩ := c.obj
    refine ⟨o, g.fr.keep D o (sm D o ho) fun i z => c.env.ext i D z (.inr (List.mem_singleton.mpr rfl)), hA.step _ _ _ _ o ke (fun a z => .inl ?_) r⟩
    exact g.wt z
theorem CI.put (c : CI K S F1 H1 D AR σw Fi ρi Hi) (hD : H1 D = none) {o : HO} (ho : mu (upd Hi D o) D) (r : AR' (Wt (addS S [D]) Fi) (upd Hi D o) o) : CI K S F1 H1 D AR' σw Fi ρi (upd Hi D o) :=
  ⟨c.env.putS (.inr (List.mem_singleton.mpr rfl)) ho, c.fr.putNew hD, c.sub, o, upd_same, r⟩
theorem CI.upd (c : CI K S F1 H1 D AR σw Fi ρi Hi) {o : HO} : ∀ b u, Hi b = some u → ¬ Wt (addS S [D]) Fi b → upd Hi D o b = some u := fun b u e n => by
  rw [upd_ne fun z => n (.inl (.inr (List.mem_singleton.mpr z)))]
  exact e
end
/-- what a turn may be asked: nothing, or a value -/
def RepO (K : PySem.W.Frag) (W : Addr → Prop) (H : Hp) : Option Dt → Option V → Prop
  | some d, some v => Rep K W H d v
  | none, none => True
  | _, _ => False
abbrev TO := L2.St → Hp → (Option V → Hp → Prop) → Prop
def tOpt (K : PySem.W.Frag) (m : En → Option (Option Dt × En)) : TO := fun σ H Q => ∃ S F ρ r, EnvOk K S F ρ σ H ∧ m ρ = some r ∧ ∀ v H' F', Go K S F σ H F' r.2 H' → RepO K (Wt S F') H' r.1 v → Q v H'
def tM (tt : TT) (te : TE) : TO := fun σ H Q => tt σ H fun b H3 => if b = true then te σ H3 fun y H4 => Q (some y) H4 else Q none H3
section
variable {K : PySem.W.Frag} {S : Addr → Prop} {F F1 : Fs} {σ : L2.St} {H H1 : Hp} {ρ1 : En} {own : List Nat}
def ownFree (ρ : En) (own : List Nat) : Bool := own.all (fun i => decide ((rd ρ i).map (·.1) ≠ some .own ∧ (rd ρ i).map (·.1) ≠ some .src))
theorem own_free {ρ : En} (e : EnvOk K S F ρ σ H) (h : ownFree ρ own = true) : ∀ i ∈ own, F i = [] ∧ ∀ fl d, rd ρ i = some (fl, d) → fl = .sh ∧ ∃ v, σ[i]? = some (some v) ∧ Rep K (Wt S F) H d v := fun i hi => by
  have k := of_decide_eq_true (List.all_eq_true.mp h i hi)
  cases hr : rd ρ i with
  | none => exact ⟨e.emp i hr, fun fl d z => by cases z⟩
  | some sl =>
    obtain ⟨fl, d⟩ := sl
    obtain ⟨v, hv, r⟩ := e.slot i fl d hr
    rw [hr] at k
    generalize hA : F i = A at r
    cases r with
    | sh r => exact ⟨rfl, fun fl d z => by cases z; exact ⟨rfl, v, hv, r⟩⟩
    | lst _ _ => exact absurd rfl k.1
    | dct _ _ => exact absurd rfl k.1
    | src _ _ _ => exact absurd rfl k.2
    | scr _ => exact absurd rfl k.2
theorem wipe_out {τ : L2.St} {j : Nat} : ∀ {is : List Nat}, j ∉ is → (L2.wipe τ is)[j]? = τ[j]?
  | [], _ => rfl
  | i :: is, h => by
    simp only [List.mem_cons, not_or] at h
    show ((L2.wipe τ is).set i none)[j]? = _
    rw [List.getElem?_set_ne (Ne.symm h.1)]
    exact wipe_out h.2
/-- the end of a comprehension -/
theorem CI.done {AR : ARel} {D : Addr} {Fn : Fs} {ρn : En} {Hn : Hp} {d : Dt} (c : CI K S F1 H1 D AR (L2.wipe σ own) Fn ρn Hn) (g : Go K S F σ H F1 ρ1 H1) (hD : H1 D = none) (hf : ownFree ρ1 own = true)
    (r : SlotRep K (Wt (addS S [D]) Fn) Hn .own (.ref D) d [D]) : PostE K S F σ H ((.own, d), back ρ1 ρn own) (.ref D) Hn Fn [D] := by
  have fr := own_free g.env hf
  refine ⟨c.env.back g.env.len (fun i hi => c.emp (fr i hi).1) (fun i hi fl d hr => ?_), .slot rfl r, g.fr.trans c.fr, fun j => ?_, fun a ha => .inr ?_, fun a ha => ?_⟩
  · obtain ⟨rfl, v, hv, q⟩ := (fr i hi).2 fl d hr
    exact ⟨rfl, v, hv, q.step c.kp (c.wt hD)⟩
  · rcases c.sub j with e | e
    · rw [e]; exact g.sub j
    · exact .inr e
  · rw [List.mem_singleton.mp ha]
    cases e : H D with
    | none => rfl
    | some o => exact absurd hD (g.fr.there D (by rw [e]; exact Option.some_ne_none _))
  · rw [List.mem_singleton.mp ha]
    exact fun z => g.env.wfree hD (.inl z)
end
section
variable {X : Cx} {cl : CallS}
/-- a turn's target, stored -/
theorem turn_g {p : Pat} {own : List Nat} {S : Addr → Prop} {F1 Fi : Fs} {H1 Hi H' : Hp} {D : Addr} {AR : ARel} {σ : L2.St} {ρi ρ2 : En} {d : Dt} {x : V} {Q : L2.St → Hp → Prop} (c : CI X.K S F1 H1 D AR (L2.wipe σ own) Fi ρi Hi) (hp : ∀ i ∈ slots p, i ∈ own) (h0 : ∀ i ∈ own, F1 i = [])
    (sm : Same Hi H') (r : Rep X.K (Wt (addS S [D]) Fi) H' d x) (b : bind p (.sh, d) ρi = some ρ2) (k : ∀ σ2, EnvOk X.K (addS S [D]) Fi ρ2 σ2 H' → L2.wipe σ2 own = L2.wipe σ own → Q σ2 H') : tG X.K p x (L2.wipe σ own) H' Q := by
  refine ⟨addS S [D], Fi, ρi, .sh, d, [], ρ2, (by rw [addS0]; exact c.env.same sm), rfl, .sh (by rw [addS0]; exact r), fun a ha => (by cases ha), b, fun σ2 F2 pg => ?_⟩
  have eF : F2 = Fi := funext fun j => by
    by_cases hj : j ∈ slots p
    · have e1 : Fi j = [] := c.emp (h0 j (hp j hj))
      rw [e1]
      refine List.eq_nil_iff_forall_not_mem.mpr fun a ha => ?_
      rcases pg.mem j a ha with z | z
      · cases z
      · rw [e1] at z; cases z
    · exact (pg.out j hj).1
  subst eF
  refine k σ2 pg.env ?_
  refine wipe_ext (by rw [pg.len, L2.wipe_length]) fun j hj => ?_
  rw [(pg.out j fun z => hj (hp j z)).2, wipe_out hj]
/-- a list comprehension, whatever its turns -/
theorem lc_any {it : It} {p : Pat} {own : List Nat} {tt : TT} {te : TE} {m : En → Option (Option Dt × En)} {h : En → Option (Sl × En)} (hp : ∀ i ∈ slots p, i ∈ own) (hm : ∀ σ H Q, tOpt X.K m σ H Q → tM tt te σ H Q)
    (hev : ∀ ρ r, h ρ = some r → ∃ q z, evI cl it ρ = some q ∧ q.1.length ≤ lim ∧ ownFree q.2 own = true ∧ compL (fun ρ x => (bind p (.sh, x) ρ).bind fun ρ2 => (m ρ2).map fun r => (r.1, wipe r.2 own)) q.1 (wipe q.2 own) = some z ∧ r = ((.own, .list z.1), back q.2 z.2 own)) :
    ∀ σ H Q, tD X.K h σ H Q → tLc (tI X.K (evI cl it)) (tG X.K p) tt te own σ H Q := by
  rintro σ H Q ⟨S, F, ρ, r, e, h1, h2⟩
  obtain ⟨q, z, e1, l1, hf, e2, rfl⟩ := hev ρ r h1
  generalize hb : (fun ρ x => (bind p (.sh, x) ρ).bind fun ρ2 => (m ρ2).map fun r => (r.1, wipe r.2 own)) = f at e2
  refine ⟨S, F, ρ, q, e, e1, fun J H1 F1 g1 wk D hD => ?_⟩
  have h0 : ∀ i ∈ own, F1 i = [] := fun i hi => (own_free g1.env hf i hi).1
  let AR : List Dt → ARel := fun ds W H o => ∃ xs, o = .lst xs ∧ Reps X.K W H ds xs
  have hA : ∀ ds, ARStep (AR ds) := fun ds => ⟨fun W H W' H' o k1 k2 ⟨xs, e, r⟩ => ⟨xs, e, r.step k1 k2⟩⟩
  refine ⟨fun i m' Hi => m' = q.1.length - i ∧ i ≤ q.1.length ∧ ∃ Fi ρi acc rest, CI X.K S F1 H1 D (AR acc) (L2.wipe σ own) Fi ρi Hi ∧ compL f (q.1.drop i) ρi = some (rest, z.2) ∧ acc ++ rest = z.1 ∧ acc.length ≤ i, ⟨q.1.length, by simp, Nat.zero_le _, F1, _, [], z.1, ?_, by simpa using e2, rfl, Nat.le_refl _⟩, ?_⟩
  · refine ⟨(g1.env.grow hD (.inl ⟨_, upd_same⟩)).wipe own h0, Fr.same (same_upd hD), fun _ => .inl rfl, _, upd_same, [], rfl, rfl⟩
  rintro i m' Hi ⟨rfl, hi, Fi, ρi, acc, rest, c, e3, e4, e5⟩
  by_cases hlt : i < q.1.length
  · refine .inr ⟨wk.goes i Hi hlt c.kp, fun H' => ∃ Fi ρi acc rest, CI X.K S F1 H1 D (AR acc) (L2.wipe σ own) Fi ρi H' ∧ compL f (q.1.drop (i + 1)) ρi = some (rest, z.2) ∧ acc ++ rest = z.1 ∧ acc.length ≤ i + 1, fun H' p' => ⟨q.1.length - (i + 1), by omega, rfl, hlt, p'⟩, fun x H' y => ?_⟩
    obtain ⟨d, hd, sm, rr⟩ := wk.yields i Hi x H' hlt c.kp y
    have rx := rr _ (c.wt hD) fun a z => (c.env.wt a z).ne
    have hdrop : q.1.drop i = d :: q.1.drop (i + 1) := by
      rw [List.drop_eq_getElem_cons hlt]
      rw [List.getElem?_eq_getElem hlt] at hd
      cases hd
      rfl
    rw [hdrop] at e3
    obtain ⟨r1, f1, e3⟩ := bindS (show (f ρi d).bind (fun r => (compL f (q.1.drop (i + 1)) r.2).map fun q => (r.1.toList ++ q.1, q.2)) = some (rest, z.2) from e3)
    obtain ⟨z1, f2, e6⟩ := mapS e3
    rw [← hb] at f1
    obtain ⟨ρ2, b1, f1⟩ := bindS f1
    obtain ⟨mr, em, rfl⟩ := mapS f1
    refine turn_g c hp h0 sm rx b1 fun σ2 env2 hw => ⟨hw, ?_⟩
    refine hm σ2 H' (fun v H4 => match v with
      | some y => ∃ acc, H4 D = some (.lst acc) ∧ acc.length < sizeLine ∧ ∃ Fi ρi acc' rest, CI X.K S F1 H1 D (AR acc') (L2.wipe σ own) Fi ρi (upd H4 D (.lst (acc ++ [y]))) ∧ compL f (q.1.drop (i + 1)) ρi = some (rest, z.2) ∧ acc' ++ rest = z.1 ∧ acc'.length ≤ i + 1
      | none => ∃ Fi ρi acc rest, CI X.K S F1 H1 D (AR acc) (L2.wipe σ own) Fi ρi H4 ∧ compL f (q.1.drop (i + 1)) ρi = some (rest, z.2) ∧ acc ++ rest = z.1 ∧ acc.length ≤ i + 1) ⟨_, Fi, ρ2, mr, env2, em, fun v H4 F4 g4 rv => ?_⟩
    have c4 := c.turn (hA acc) sm g4 h0 hw
    obtain ⟨md, mρ⟩ := mr
    have e6' : z1.2 = z.2 ∧ rest = md.toList ++ z1.1 := by
      have := e6
      simp only [Prod.mk.injEq] at this
      exact ⟨this.2, this.1.symm⟩
    obtain ⟨z2, rfl⟩ := e6'
    have f2' : compL f (q.1.drop (i + 1)) (wipe mρ own) = some (z1.1, z.2) := by
      rw [← z2]; exact f2
    cases md with
    | none =>
      cases v with
      | some y => cases rv
      | none => exact ⟨F4, _, acc, z1.1, c4, f2', by simpa using e4, by omega⟩
    | some d' =>
      cases v with
      | none => cases rv
      | some y =>
        obtain ⟨o, ho, xs, rfl, rs⟩ := c4.obj
        have hl : xs.length ≤ i := by rw [← rs.length]; exact e5
        refine ⟨xs, ho, Nat.lt_of_le_of_lt hl (Nat.lt_of_lt_of_le hlt (lim_line l1)), F4, _, acc ++ [d'], z1.1, c4.put (AR' := AR (acc ++ [d'])) hD (.inl ⟨_, upd_same⟩) ⟨xs ++ [y], rfl, ?_⟩, f2', by simpa using e4, by simp; omega⟩
        have rv' : Rep X.K (Wt (addS S [D]) F4) H4 d' y := rv
        exact (rs.append (.cons rv' .nil)).step c4.upd fun a z => .inl z
  · have e : i = q.1.length := by omega
    subst e
    rw [List.drop_length] at e3
    cases e3
    obtain ⟨o, ho, xs, rfl, rs⟩ := c.obj
    refine .inl ⟨wk.stops Hi c.kp, h2 _ _ _ _ (c.done g1 hD hf ?_)⟩
    rw [← e4, List.append_nil]
    exact .lst ho rs
theorem RepKv.length {K : PySem.W.Frag} {W : Addr → Prop} {H : Hp} : ∀ {es : List (Dt × Dt)} {kvs : List (Key × V)}, RepKv K W H es kvs → es.length = kvs.length
  | [], _, r => by rw [show _ = _ from r]; rfl
  | (kd, d) :: es, _, ⟨j, v, q, e, e1, r, rs⟩ => by subst e; simp [RepKv.length rs]
theorem kvPut_len (es : List (Dt × Dt)) (k d : Dt) : (kvPut es k d).length ≤ es.length + 1 := by
  unfold kvPut
  split <;> simp
theorem kvOf_len (ps : List Dt) : (kvOf ps).length ≤ ps.length := by
  have key : ∀ (ps : List Dt) (es : List (Dt × Dt)), (ps.foldl kvAdd es).length ≤ es.length + ps.length := by
    intro ps
    induction ps with
    | nil => intro es; simp
    | cons p ps ih =>
      intro es
      have h1 := ih (kvAdd es p)
      have h2 : (kvAdd es p).length ≤ es.length + 1 := by
        unfold kvAdd
        split
        · exact kvPut_len _ _ _
        · omega
      simp only [List.foldl_cons, List.length_cons]
      omega
  have := key ps []
  rw [List.length_nil, Nat.zero_add] at this
  exact this
/-- a dict comprehension -/
theorem dc_any {it : It} {p : Pat} {own : List Nat} {ek ed : E} (hp : ∀ i ∈ slots p, i ∈ own) :
    ∀ σ H Q, tD X.K (ev cl (.dcomp ek ed p it own)) σ H Q → tDc (tI X.K (evI cl it)) (tG X.K p) tYes (tK X.K fun ρ => keepS (ev cl ek ρ)) (tK X.K fun ρ => keepS (ev cl ed ρ)) own σ H Q := by
  rintro σ H Q ⟨S, F, ρ, r, e, h1, h2⟩
  simp only [ev] at h1
  obtain ⟨q, e1, h1⟩ := bindS h1
  obtain ⟨c1, h1⟩ := iteS h1
  obtain ⟨c1, c2⟩ := and2 c1
  have l1 := of_decide_eq_true c1
  have hf : ownFree q.2 own = true := c2
  obtain ⟨z, e2, rfl⟩ := mapS h1
  generalize hb : (fun (ρ' : En) x => (bind p (.sh, x) ρ').bind fun ρ'' => (keepS (ev cl ek ρ'')).bind fun q => if isKey q.1 = true then (keepS (ev cl ed q.2)).map fun t => (some (PyData.tuple [q.1, t.1]), wipe t.2 own) else none) = f at e2
  refine ⟨S, F, ρ, q, e, e1, fun J H1 F1 g1 wk D hD => ?_⟩
  have h0 : ∀ i ∈ own, F1 i = [] := fun i hi => (own_free g1.env hf i hi).1
  let AR : List Dt → ARel := fun ds W H o => ∃ xs, o = .dK xs ∧ RepKv X.K W H (kvOf ds) xs
  have hA : ∀ ds, ARStep (AR ds) := fun ds => ⟨fun W H W' H' o k1 k2 ⟨xs, e, r⟩ => ⟨xs, e, r.step k1 k2⟩⟩
  refine ⟨fun i m' Hi => m' = q.1.length - i ∧ i ≤ q.1.length ∧ ∃ Fi ρi acc rest, CI X.K S F1 H1 D (AR acc) (L2.wipe σ own) Fi ρi Hi ∧ compL f (q.1.drop i) ρi = some (rest, z.2) ∧ acc ++ rest = z.1 ∧ acc.length ≤ i, ⟨q.1.length, by simp, Nat.zero_le _, F1, _, [], z.1, ?_, by simpa using e2, rfl, Nat.le_refl _⟩, ?_⟩
  · refine ⟨(g1.env.grow hD (.inr ⟨_, upd_same⟩)).wipe own h0, Fr.same (same_upd hD), fun _ => .inl rfl, _, upd_same, [], rfl, rfl⟩
  rintro i m' Hi ⟨rfl, hi, Fi, ρi, acc, rest, c, e3, e4, e5⟩
  by_cases hlt : i < q.1.length
  · refine .inr ⟨wk.goes i Hi hlt c.kp, fun H' => ∃ Fi ρi acc rest, CI X.K S F1 H1 D (AR acc) (L2.wipe σ own) Fi ρi H' ∧ compL f (q.1.drop (i + 1)) ρi = some (rest, z.2) ∧ acc ++ rest = z.1 ∧ acc.length ≤ i + 1, fun H' p' => ⟨q.1.length - (i + 1), by omega, rfl, hlt, p'⟩, fun x H' y => ?_⟩
    obtain ⟨d, hd, sm, rr⟩ := wk.yields i Hi x H' hlt c.kp y
    have rx := rr _ (c.wt hD) fun a z => (c.env.wt a z).ne
    have hdrop : q.1.drop i = d :: q.1.drop (i + 1) := by
      rw [List.drop_eq_getElem_cons hlt]
      rw [List.getElem?_eq_getElem hlt] at hd
      cases hd
      rfl
    rw [hdrop] at e3
    obtain ⟨r1, f1, e3⟩ := bindS (show (f ρi d).bind (fun r => (compL f (q.1.drop (i + 1)) r.2).map fun q => (r.1.toList ++ q.1, q.2)) = some (rest, z.2) from e3)
    obtain ⟨z1, f2, e6⟩ := mapS e3
    rw [← hb] at f1
    obtain ⟨ρ2, b1, f1⟩ := bindS f1
    obtain ⟨k1, ek1, f1⟩ := bindS f1
    obtain ⟨ck, f1⟩ := iteS f1
    obtain ⟨d1, ed1, rfl⟩ := mapS f1
    obtain ⟨kk, hk⟩ := keyOf ck
    refine turn_g c hp h0 sm rx b1 fun σ2 env2 hw => ⟨hw, ?_⟩
    unfold tYes
    simp only [if_true]
    refine ⟨_, Fi, ρ2, k1, env2, ek1, fun u H3 F3 p3 => ⟨_, F3, k1.2, d1, p3.go.env, ed1, fun v H4 F4 p4 => ?_⟩⟩
    have c4 := c.turn (hA acc) sm (p3.go.trans p4.go) h0 hw
    have e6' : z1.2 = z.2 ∧ rest = PyData.tuple [k1.1, d1.1] :: z1.1 := by
      have := e6
      simp only [Prod.mk.injEq] at this
      exact ⟨this.2, this.1.symm⟩
    obtain ⟨z2, rfl⟩ := e6'
    have f2' : compL f (q.1.drop (i + 1)) (wipe d1.2 own) = some (z1.1, z.2) := by
      rw [← z2]; exact f2
    obtain ⟨o, ho, xs, rfl, rs⟩ := c4.obj
    have hl : xs.length ≤ i := by
      rw [← rs.length]
      exact Nat.le_trans (kvOf_len acc) e5
    have hu : u = kV kk := by
      have r3 := p3.rep
      rw [hk] at r3
      cases kk <;> exact r3
    refine ⟨xs, kk, hu, ho, Nat.lt_of_le_of_lt hl (Nat.lt_of_lt_of_le hlt (lim_line l1)), F4, _, acc ++ [PyData.tuple [k1.1, d1.1]], z1.1, c4.put (AR' := AR (acc ++ [PyData.tuple [k1.1, d1.1]])) hD (.inr ⟨_, upd_same⟩) ⟨_, rfl, ?_⟩, f2', by simpa using e4, by simp; omega⟩
    have e7 : kvOf (acc ++ [PyData.tuple [k1.1, d1.1]]) = kvPut (kvOf acc) (keyD kk) d1.1 := by
      unfold kvOf
      rw [List.foldl_append, ← hk]
      rfl
    rw [e7]
    have rv' : Rep X.K (Wt (addS S [D]) F4) H4 d1.1 v := p4.rep
    exact (rs.put rv').step c4.upd fun a z => .inl z
  · have e : i = q.1.length := by omega
    subst e
    rw [List.drop_length] at e3
    cases e3
    obtain ⟨o, ho, xs, rfl, rs⟩ := c.obj
    refine .inl ⟨wk.stops Hi c.kp, h2 _ _ _ _ (c.done g1 hD hf ?_)⟩
    rw [← e4, List.append_nil]
    exact .dct ho rs
/-! ### the two list forms -/
theorem comp_w {it : It} {p : Pat} {own : List Nat} {elt : E} (hp : ∀ i ∈ slots p, i ∈ own) :
    ∀ σ H Q, tD X.K (ev cl (.comp elt p it own)) σ H Q → tLc (tI X.K (evI cl it)) (tG X.K p) tYes (tK X.K fun ρ => keepS (ev cl elt ρ)) own σ H Q := by
  refine lc_any (m := fun ρ => (keepS (ev cl elt ρ)).map fun q => (some q.1, q.2)) hp (fun σ H Q ⟨S, F, ρ, r, e, h1, h2⟩ => ?_) fun ρ r h => ?_
  · obtain ⟨q, e1, rfl⟩ := mapS h1
    unfold tM tYes
    simp only [if_true]
    exact ⟨S, F, ρ, q, e, e1, fun v H' F' p1 => h2 _ _ _ p1.go p1.rep⟩
  · simp only [ev] at h
    obtain ⟨q, e1, h1⟩ := bindS h
    obtain ⟨c1, h1⟩ := iteS h1
    obtain ⟨c1, c2⟩ := and2 c1
    obtain ⟨z, e2, rfl⟩ := mapS h1
    refine ⟨q, z, e1, of_decide_eq_true c1, c2, ?_, rfl⟩
    rw [← e2]
    congr 1
    funext ρ x
    cases bind p (.sh, x) ρ with
    | none => rfl
    | some ρ2 =>
      show Option.map _ (Option.map _ _) = Option.map _ _
      rw [Option.map_map]
      rfl
theorem compIf_w {it : It} {p : Pat} {own : List Nat} {elt c : E} (hp : ∀ i ∈ slots p, i ∈ own) :
    ∀ σ H Q, tD X.K (ev cl (.compIf elt p it own c)) σ H Q → tLc (tI X.K (evI cl it)) (tG X.K p) (tT X.K (tv cl c)) (tK X.K fun ρ => keepS (ev cl elt ρ)) own σ H Q := by
  refine lc_any (m := fun ρ => (tv cl c ρ).bind fun t => if t.1 = true then (keepS (ev cl elt t.2)).map fun q => (some q.1, q.2) else some (none, t.2)) hp (fun σ H Q ⟨S, F, ρ, r, e, h1, h2⟩ => ?_) fun ρ r h => ?_
  · obtain ⟨t, e1, h1⟩ := bindS h1
    refine ⟨S, F, ρ, t, e, e1, fun H1 F1 g1 => ?_⟩
    cases ht : t.1 with
    | true =>
      rw [ht, if_pos rfl] at h1
      obtain ⟨q, e2, rfl⟩ := mapS h1
      rw [if_pos rfl]
      exact ⟨S, F1, t.2, q, g1.env, e2, fun v H' F' p1 => h2 _ _ _ (g1.trans p1.go) p1.rep⟩
    | false =>
      rw [ht, if_neg (by decide)] at h1
      cases h1
      rw [if_neg (by decide)]
      exact h2 none H1 F1 g1 trivial
  · simp only [ev] at h
    obtain ⟨q, e1, h1⟩ := bindS h
    obtain ⟨c1, h1⟩ := iteS h1
    obtain ⟨c1, c2⟩ := and2 c1
    obtain ⟨z, e2, rfl⟩ := mapS h1
    refine ⟨q, z, e1, of_decide_eq_true c1, c2, ?_, rfl⟩
    rw [← e2]
    congr 1
    funext ρ x
    cases bind p (.sh, x) ρ with
    | none => rfl
    | some ρ2 =>
      show Option.map _ (Option.bind (tv cl c ρ2) _) = ((ev cl c ρ2).bind tst).bind _
      unfold tv
      cases (ev cl c ρ2).bind tst with
      | none => rfl
      | some t =>
        show Option.map _ (if t.1 = true then _ else _) = if t.1 = true then _ else _
        cases t.1 with
        | true =>
          rw [if_pos rfl, if_pos rfl, Option.map_map]
          rfl
        | false => rfl
end
end Mini

end
section
set_option Elab.async false
set_option linter.all false
set_option maxRecDepth 100000
set_option maxHeartbeats 4000000
/-! Mini, part 16s: the draws' record, the script. -/
namespace Mini
open PySem PySem.Spec PyProof.Rows L2
section
variable {K : PySem.W.Frag} {W : Addr → Prop} {H : Hp}
/-- a record's data and its objects -/
theorem SlotRep.rcd {v : V} {d : Dt} {A : List Addr} (r : SlotRep K W H .src v d A) (ht : ∀ ds, d ≠ .list ds) : ∃ a c ns l m t, v = .ref a ∧ d = srcD ns l m t ∧ H a = some (.dK (srcKvs c l m t)) ∧ H c = some (.lst (ns.map .int)) ∧ a ≠ c ∧ A = [a, c] := by
  cases r with
  | src h1 h2 h3 => exact ⟨_, _, _, _, _, _, rfl, rfl, h1, h2, h3, rfl⟩
  | scr _ => exact absurd rfl (ht _)
theorem allI_map (ns : List Int) : allI (ns.map .int) = some ns := by
  induction ns with
  | nil => rfl
  | cons n ns ih =>
    unfold allI at ih ⊢
    simp only [List.map_cons, List.mapM_cons, ih]
    rfl
theorem getF_src {k : Str} {ns : List Int} {l m t : Int} {v : Int} {c : Addr} (h : getF k (srcD ns l m t) = some v) : valV (srcKvs c l m t) (.inr k : Key) = some (.int v) := by
  have h : (if k = "left" then some l else if k = "mixed" then some m else if k = "turn" then some t else none) = some v := h
  split at h
  · rename_i e
    cases h
    subst e
    rfl
  · split at h
    · rename_i e
      cases h
      subst e
      rfl
    · split at h
      · rename_i e
        cases h
        subst e
        rfl
      · cases h
theorem putF_src {k : Str} {ns : List Int} {l m t v : Int} {d' : Dt} {c : Addr} (h : putF k v (srcD ns l m t) = some d') : ∃ l' m' t', d' = srcD ns l' m' t' ∧ putK (srcKvs c l m t) (.inr k : Key) (.int v) = srcKvs c l' m' t' := by
  have h : (if k = "left" then some (srcD ns v m t) else if k = "mixed" then some (srcD ns l v t) else if k = "turn" then some (srcD ns l m v) else none) = some d' := h
  split at h
  · rename_i e
    cases h
    subst e
    exact ⟨_, _, _, rfl, rfl⟩
  · split at h
    · rename_i e
      cases h
      subst e
      exact ⟨_, _, _, rfl, rfl⟩
    · split at h
      · rename_i e
        cases h
        subst e
        exact ⟨_, _, _, rfl, rfl⟩
      · cases h
theorem getF_rec {k : Str} {d : Dt} {v : Int} (h : getF k d = some v) : ∀ ds, d ≠ .list ds := fun ds e => by
  subst e
  cases h
theorem putF_rec {k : Str} {d d' : Dt} {v : Int} (h : putF k v d = some d') : ∀ ds, d ≠ .list ds := fun ds e => by
  subst e
  cases h
end
section
variable {X : Cx} {cl : CallS} {N : List Str} {sc st : Scope}
theorem pe_fl_ (g : Gd cl N sc st X) {i : Nat} {k : Str} {n : Expr} {kk : Nat} {p pos : Pos} (hn : chkNm N sc i n = true) : PE X (.Subscript n (.Constant (.str k) kk p) pos) (tD X.K (ev cl (.fl i k))) :=
  pe_w (pe_ix ix_dict (pe_nm g hn) pe_str fun _ _ => rfl) fun σ H Q ⟨S, F, ρ, r, e, h1, h2⟩ => by
    simp only [ev] at h1
    split at h1
    · rename_i d hr
      obtain ⟨v, hv, rfl⟩ := mapS h1
      obtain ⟨u, hu, sr⟩ := e.slot i _ _ hr
      obtain ⟨a, c, ns, l, m, t, rfl, rfl, ha, hc, hac, _⟩ := sr.rcd (getF_rec hv)
      refine ⟨_, hu, a, .int v, rfl, ?_, by have := g.room; omega, h2 _ H F [] ((Go.refl e).shared rfl)⟩
      rw [← getF_src (c := c) hv]
      exact DGet.k (k := .inr k) ha
    · cases h1
theorem pi_scr_ (g : Gd cl N sc st X) {i : Nat} {n tg : Expr} (hn : chkNm N sc i n = true) : PI X tg n (tI X.K (evI cl (.scr i))) := by
  refine ⟨fun pins s σ H R I hw => ?_⟩
  obtain ⟨S, F, ρ, r, e, h1, h2⟩ := hw
  simp only [evI] at h1
  split at h1
  · rename_i ds hr
    cases h1
    obtain ⟨u, hu, sr⟩ := e.slot i _ _ hr
    have key : ∃ (a : Addr) (ns : List Int), u = .ref a ∧ ds = ns.map PyData.int ∧ ((∃ o, H a = some (.frz o (.lst (ns.map .int)))) ∨ LsK X.K a (ns.map .int)) := by
      generalize F i = A at sr
      generalize hd : PyData.list ds = d at sr
      cases sr with
      | src _ _ _ => cases hd
      | scr h => cases hd; exact ⟨_, _, rfl, rfl, h⟩
    obtain ⟨a, ns, rfl, rfl, hf⟩ := key
    have sq : ∀ H', (∀ b o, H b = some o → ¬ Wt S F b → H' b = some o) → SqL X.K H' a (ns.map .int) := fun H' kp => by
      rcases hf with ⟨o, h⟩ | ⟨o, its, n, k1, k2, k3, k4, k5, k6⟩
      · refine .inl (.inr ⟨o, kp _ _ h fun z => ?_⟩)
        rcases e.wt a z with ⟨_, q⟩ | ⟨_, q⟩ <;> (rw [h] at q; cases q)
      · exact .inr ⟨o, its, n, k1, k2, k3, k4, k5, k6⟩
    refine (pi_list (pe_nm g hn)).run pins s σ H R I ⟨_, hu, a, rfl, ⟨_, sq H fun _ _ e _ => e⟩, h2 _ H F (Go.refl e) ⟨fun i' H' hi kp => ⟨_, .int (ns[i']'(by simpa using hi)), sq H' kp, by simp at hi; simp [hi]⟩, fun H' kp => ⟨_, sq H' kp, by simp⟩, fun i' H' x H'' hi kp y => ?_⟩⟩
    obtain ⟨rfl, y⟩ := y
    have hi' : i' < ns.length := by simpa using hi
    have hx := y _ (sq _ kp)
    rw [List.getElem?_map, List.getElem?_eq_getElem hi'] at hx
    cases hx
    exact ⟨.int ns[i'], by simp [hi'], same_refl, fun W' _ _ => rfl⟩
  · cases h1
/-- a new record -/
theorem pe_mkS_ (g : Gd cl N sc st X) {c m : E} {x y : Expr} {j1 j2 j3 j4 j5 j6 : Nat} {p1 p2 p3 p4 p5 p6 pos : Pos} (hc : PE X x (tD X.K (ev cl c))) (hm : PE X y (tD X.K (ev cl m))) :
    PE X (.Dict [some (.Constant (.str "cells") j1 p1), some (.Constant (.str "left") j2 p2), some (.Constant (.str "mixed") j3 p3), some (.Constant (.str "turn") j4 p4)] [x, .Constant (.int 1) j5 p5, y, .Constant (.int 0) j6 p6] pos) (tD X.K (ev cl (.mkS c m))) :=
  pe_w (pe_disp (pps_cons pe_str hc (pps_cons pe_str pe_int (pps_cons pe_str (pe_k hm) (pps_cons pe_str pe_int pps_nil)))) rfl rfl (by simp) (by simp)) fun σ H Q ⟨S, F, ρ, r, e, h1, h2⟩ => by
    simp only [ev] at h1
    obtain ⟨q, e1, h1⟩ := bindS h1
    split at h1
    · rename_i ds hq
      obtain ⟨ns, hns, h1⟩ := bindS h1
      obtain ⟨q2, e2, h1⟩ := bindS h1
      split at h1
      · rename_i k hk
        cases h1
        intro p hp
        have e0 := e.grow hp (o := .dK []) (.inr ⟨_, upd_same⟩)
        have sm := same_upd (o := .dK []) hp
        show tD X.K (ev cl c) σ (upd H p (.dK [])) _
        refine ⟨_, F, ρ, q, e0, e1, fun v H1 F1 A1 q1 => ?_⟩
        show tK X.K (fun ρ => keepS (ev cl m ρ)) σ H1 _
        refine ⟨addS (addS S [p]) A1, F1, q.2, q2, q1.env, e2, fun u H2 F2 q3 => ?_⟩
        show H2 p = some (.dK []) ∧ _
        -- the list of cells
        obtain ⟨⟨fl, d⟩, ρ1⟩ := q
        cases hq
        have lv : ∃ cA xs, v = .ref cA ∧ A1 = [cA] ∧ H1 cA = some (.lst xs) ∧ xs = ns.map V.int := by
          cases q1.res with
          | slot _ sr =>
            cases sr with
            | lst h h' => exact ⟨_, _, rfl, rfl, h, h'.ints hns⟩
        obtain ⟨cA, xs, rfl, rfl, hcl, rfl⟩ := lv
        have hS : ∀ b, addS (addS S [p]) [cA] b → ∀ i, b ∉ F1 i := fun b hb i hi => q1.env.ext i b hi hb
        have hp1 : H1 p = some (.dK []) := q1.fr.keep p _ upd_same fun i hi => e0.ext i p hi (.inr (List.mem_singleton.mpr rfl))
        have hp2 : H2 p = some (.dK []) := q3.go.fr.keep p _ hp1 (hS p (.inl (.inr (List.mem_singleton.mpr rfl))))
        have hc2 : H2 cA = some (.lst (ns.map .int)) := q3.go.fr.keep cA _ hcl (hS cA (.inr (List.mem_singleton.mpr rfl)))
        have hne : p ≠ cA := fun z => by rw [← z, hp2] at hc2; cases hc2
        have hu : u = .int k := by
          have := q3.rep
          rw [hk] at this
          exact this
        refine ⟨hp2, srcKvs cA 1 k 0, by rw [hu]; rfl, by simp [srcKvs], ?_⟩
        have hmerge : mergeK [] (srcKvs cA 1 k 0) = srcKvs cA 1 k 0 := rfl
        rw [hmerge]
        have e4 : EnvOk X.K (addS S [p, cA]) F2 q2.2 σ (upd H2 p (.dK (srcKvs cA 1 k 0))) := by
          have e3 := q3.go.env.putS (a := p) (o := .dK (srcKvs cA 1 k 0)) (.inl (.inr (List.mem_singleton.mpr rfl))) (.inr ⟨_, upd_same⟩)
          refine e3.weak fun a z => ?_
          rcases z with z | z
          · exact .inl (.inl z)
          · rcases List.mem_cons.mp z with z | z
            · rw [z]; exact .inl (.inr (List.mem_singleton.mpr rfl))
            · exact .inr z
        have none_of : ∀ b, (∃ j, b ∈ F j) ∨ upd H p (.dK []) b = none → (∃ j, b ∈ F j) ∨ H b = none := fun b z => z.imp id fun z => by
          by_cases hb : b = p
          · subst hb; exact hp
          · rw [upd_ne hb] at z; exact z
        refine h2 _ _ F2 [p, cA] ⟨e4, .slot rfl (.src upd_same (by rw [upd_ne (Ne.symm hne)]; exact hc2) hne), ?_, fun i => ?_, fun a ha => ?_, fun a ha => ?_⟩
        · refine ⟨fun b o hb n => ?_, fun i b hb => ?_, fun b hb => ?_⟩
          · rw [upd_ne (ne_of_none hb hp)]
            refine q3.go.fr.keep b o (q1.fr.keep b o (sm b o hb) n) fun i hi => ?_
            rcases q1.fr.new i b hi with ⟨j, z⟩ | z
            · exact n j z
            · rw [sm b o hb] at z; cases z
          · rcases q3.go.fr.new i b hb with ⟨j, z⟩ | z
            · exact none_of b (q1.fr.new j b z)
            · cases hH : H b with
              | none => exact .inr rfl
              | some o => exact absurd z (q1.fr.there b (by rw [sm b o hH]; exact Option.some_ne_none _))
          · have hbp : b ≠ p := fun z => hb (by rw [z]; exact hp)
            rw [upd_ne hbp]
            refine q3.go.fr.there b (q1.fr.there b ?_)
            rw [upd_ne hbp]
            exact hb
        · rcases q3.go.sub i with z | z
          · rw [z]; exact q1.sub i
          · exact .inr z
        · rcases List.mem_cons.mp ha with z | z
          · rw [z]; exact .inr hp
          · rw [List.mem_singleton.mp z]; exact none_of cA (q1.new cA (List.mem_singleton.mpr rfl))
        · rcases List.mem_cons.mp ha with z | z
          · rw [z]; exact fun z => e.wfree hp (.inl z)
          · rw [List.mem_singleton.mp z]; exact fun z => q1.apart cA (List.mem_singleton.mpr rfl) (.inl z)
      · cases h1
    · cases h1
end
end Mini

end
section
set_option Elab.async false
set_option linter.all false
set_option maxRecDepth 100000
set_option maxHeartbeats 4000000
/-! Mini, part 17: every checked expression does what its meaning tells. -/
namespace Mini
open PySem PySem.Spec PyProof.Rows L2
section
variable {X : Cx} {cl : CallS} {N : List Str} {sc st : Scope}
theorem pw_of {op : BoolOp} {vs : List Expr} {pos : Pos} {t : TT} (h : PT X (.BoolOp op vs pos) t) : PW X (.BoolOp op vs pos) t := ⟨fun wh pins s σ H Q I q => h.run pins s σ H Q I q⟩
theorem notSet_fold {e : Expr} (h : ∀ es k p, e ≠ .Set es k p) (env : Env) : ∀ x, foldedSetIterable e env x = pure x := by
  intro x
  cases e <;> first | rfl | exact absurd rfl (h _ _ _)
/-- both forms -/
def Snd (cl : CallS) (X : Cx) (x : Expr) (e : E) : Prop := PE X x (tD X.K (ev cl e)) ∧ PT X x (tT X.K (tv cl e))
theorem Snd.of {x : Expr} {e : E} (h : PE X x (tD X.K (ev cl e))) (he : ∀ whole, isTrue x X.env whole = (do let v ← whole; standAt x.pos; holding [v] (truthy v))) : Snd cl X x e := ⟨h, pt_truth_ he h⟩
theorem chkI_set {it : It} {x tg : Expr} (h : chkI N sc it x tg = true) : ∀ es k p, x ≠ .Set es k p := by
  intro es k p e
  subst e
  cases it with
  | e a => rw [show chkI N sc (.e a) (.Set es k p) tg = chkE N sc a (.Set es k p) from rfl, chkE_set] at h; cases h
  | _ => cases h
theorem own_map {own : List Nat} : (ownOf N own).map (·.2) = own := by
  unfold ownOf
  induction own with
  | nil => rfl
  | cons i is ih =>
    show i :: List.map _ (List.map _ is) = _
    rw [ih]
theorem and4 {a b c d : Bool} (h : (a && b && c && d) = true) : a = true ∧ b = true ∧ c = true ∧ d = true := by
  cases a <;> cases b <;> cases c <;> cases d <;> simp_all
theorem all_own {p : Pat} {own : List Nat} (h : (slots p).all (own.contains ·) = true) : ∀ i ∈ slots p, i ∈ own := fun i hi => by
  have := List.all_eq_true.mp h i hi
  simpa using this
theorem noAny : ∀ (es : Es) {l : List Expr}, chkA N sc es l = true → ∀ {env : Env} (pos : Pos), (backTo pos (starEach l env)).any (·.1) = false
  | .nil, [], _, _, _ => rfl
  | .nil, _ :: _, h, _, _ => by cases h
  | .cons a r, [], h, _, _ => by cases a <;> cases h
  | .star a r, l, h, _, _ => by cases l <;> cases h
  | .cons a r, x :: xs, h, env, pos => by
    have key : starEach (x :: xs) env = (false, eval x env) :: starEach xs env ∧ chkA N sc r xs = true := by
      by_cases hio : ∃ i, a = .io i
      · obtain ⟨i, rfl⟩ := hio
        obtain ⟨h1, h2⟩ := and2 (show (chkNm N sc i x && chkA N sc r xs) = true from h)
        exact ⟨(by cases x <;> first | rfl | cases h1), h2⟩
      · have h' : (chkE N sc a x && chkA N sc r xs) = true := by
          cases a <;> first | exact h | exact absurd ⟨_, rfl⟩ hio
        obtain ⟨h1, h2⟩ := and2 h'
        exact ⟨noStar h1 _ _, h2⟩
    have ih := noAny r key.2 (env := env) pos
    rw [key.1]
    unfold backTo at ih ⊢
    simpa using ih
mutual
theorem snd_E : ∀ (e : E) {sc st : Scope} {X : Cx} {x : Expr}, Gd cl N sc st X → chkE N sc e x = true → Snd cl X x e
  | .v i, sc, st, X, x, g, h => by
    have h' : chkNm N sc i x = true := by cases x <;> exact h
    cases x with
    | Name y p => exact .of (pe_w (pe_nm g h') w_v) fun _ => rfl
    | _ => cases h'
  | .sh i, sc, st, X, x, g, h => by
    have h' : chkNm N sc i x = true := by cases x <;> exact h
    cases x with
    | Name y p => exact .of (pe_w (pe_nm g h') w_sh) fun _ => rfl
    | _ => cases h'
  | .mv i, sc, st, X, x, g, h => by
    have h' : chkNm N sc i x = true := by cases x <;> exact h
    cases x with
    | Name y p => exact .of (pe_w (pe_nm g h') w_mv) fun _ => rfl
    | _ => cases h'
  | .gl n d, _, _, _, x, g, h => by cases x <;> cases h
  | .int i, sc, st, X, x, g, h => by
    cases x with
    | Constant c k p =>
      cases c with
      | int j =>
        have h := of_decide_eq_true (show decide (i = j) = true from h)
        subst h
        exact .of (pe_w pe_int (w_c (fun _ => rfl) fun _ _ => rfl)) fun _ => rfl
      | _ => cases h
    | _ => cases h
  | .str i, sc, st, X, x, g, h => by
    cases x with
    | Constant c k p =>
      cases c with
      | str j =>
        have h := of_decide_eq_true (show decide (i = j) = true from h)
        subst h
        exact .of (pe_w pe_str (w_c (fun _ => rfl) fun _ _ => rfl)) fun _ => rfl
      | _ => cases h
    | _ => cases h
  | .bl i, sc, st, X, x, g, h => by
    cases x with
    | Constant c k p =>
      cases c with
      | bool j =>
        have h : i = j := eq_of_beq (show (i == j) = true from h)
        subst h
        exact .of (pe_w pe_bl (w_c (fun _ => rfl) fun _ _ => rfl)) fun _ => rfl
      | _ => cases h
    | _ => cases h
  | .non, sc, st, X, x, g, h => by
    cases x with
    | Constant c k p =>
      cases c with
      | none => exact .of (pe_w pe_non (w_c (fun _ => rfl) fun _ _ => rfl)) fun _ => rfl
      | _ => cases h
    | _ => cases h
  | .tup es, sc, st, X, x, g, h => by
    cases x with
    | Tuple l k p => exact .of (pe_tup_ (snd_L es g h)) fun _ => rfl
    | _ => cases h
  | .lst es, sc, st, X, x, g, h => by
    cases x with
    | List l p => exact .of (pe_lst_ (snd_L es g h)) fun _ => rfl
    | _ => cases h
  | .bin o a b, sc, st, X, x, g, h => by
    cases x with
    | BinOp y op z p =>
      obtain ⟨h1, h2, h3⟩ := and3 (show (decide (op = boOp o) && chkE N sc a y && chkE N sc b z) = true from h)
      have h1 := of_decide_eq_true h1
      subst h1
      exact .of (pe_bin_ (snd_E a g h2).1 (snd_E b g h3).1) fun _ => rfl
    | _ => cases h
  | .neg a, sc, st, X, x, g, h => by
    cases x with
    | UnaryOp op y p =>
      cases op with
      | USub => exact .of (pe_neg_ (snd_E a g h).1) fun _ => rfl
      | _ => cases h
    | _ => cases h
  | .not a, sc, st, X, x, g, h => by
    cases x with
    | UnaryOp op y p =>
      cases op with
      | Not =>
        have q := snd_E a g (x := y) h
        exact ⟨pe_not_ q.1, pt_not_ q.2⟩
      | _ => cases h
    | _ => cases h
  | .cmp o a b, sc, st, X, x, g, h => by
    cases x with
    | Compare y ops zs p =>
      cases ops with
      | nil => cases h
      | cons op ops =>
        cases ops with
        | cons _ _ => cases zs <;> cases h
        | nil =>
          cases zs with
          | nil => cases h
          | cons z zs =>
            cases zs with
            | cons _ _ => cases h
            | nil =>
              obtain ⟨h1, h2, h3⟩ := and3 (show (decide (op = coOp o) && chkE N sc a y && chkE N sc b z) = true from h)
              have h1 := of_decide_eq_true h1
              subst h1
              have q := snd_E a g h2
              have q' := snd_E b g h3
              exact ⟨pe_cmp_ g (noBehind h3 _) q.1 q'.1, pt_cmp_ g (noBehind h3 _) q.1 q'.1⟩
    | _ => cases h
  | .chain o o' a b c, sc, st, X, x, g, h => by
    cases x with
    | Compare y ops zs p =>
      cases ops with
      | nil => cases h
      | cons op ops =>
        cases ops with
        | nil => cases h
        | cons op2 ops =>
          cases ops with
          | cons _ _ => cases h
          | nil =>
            cases zs with
            | nil => cases h
            | cons z zs =>
              cases zs with
              | nil => cases h
              | cons z2 zs =>
                cases zs with
                | cons _ _ => cases h
                | nil =>
                  have h : (decide (op = coOp o) && decide (op2 = coOp o') && chkE N sc a y && chkE N sc b z && chkE N sc c z2) = true := h
                  obtain ⟨h, h5⟩ := and2 h
                  obtain ⟨h1, h2, h3, h4⟩ := and4 h
                  have h1 := of_decide_eq_true h1
                  have h2 := of_decide_eq_true h2
                  subst h1 h2
                  exact pe_chain_ g (noBehind h5 _) (snd_E a g h3).1 (snd_E b g h4).1 (snd_E c g h5).1
    | _ => cases h
  | .and a b, sc, st, X, x, g, h => by
    cases x with
    | BoolOp op vs p =>
      cases op with
      | Or => cases vs with
        | nil => cases h
        | cons y ys => cases ys <;> cases h
      | And =>
        cases vs with
        | nil => cases h
        | cons y ys =>
          cases ys with
          | nil => cases h
          | cons z r =>
            cases r with
            | nil =>
              obtain ⟨h1, h2⟩ := and2 (show (chkE N sc a y && chkE N sc b z) = true from h)
              have q := snd_E a g h1
              have q' := snd_E b g h2
              exact ⟨pe_and_ q.1 (pe_one q'.1), (pt_and_ q.2 (pw_and1 q'.2)).pt⟩
            | cons z2 r =>
              obtain ⟨h1, h2⟩ := and2 (show (chkE N sc a y && chkE N sc b (.BoolOp .And (z :: z2 :: r) p)) = true from h)
              have q := snd_E a g h1
              have q' := snd_E b g h2
              exact ⟨pe_and_ q.1 q'.1, (pt_and_ q.2 (pw_of q'.2)).pt⟩
    | _ => cases h
  | .or a b, sc, st, X, x, g, h => by
    cases x with
    | BoolOp op vs p =>
      cases op with
      | And => cases vs with
        | nil => cases h
        | cons y ys => cases ys <;> cases h
      | Or =>
        cases vs with
        | nil => cases h
        | cons y ys =>
          cases ys with
          | nil => cases h
          | cons z r =>
            cases r with
            | nil =>
              obtain ⟨h1, h2⟩ := and2 (show (chkE N sc a y && chkE N sc b z) = true from h)
              have q := snd_E a g h1
              have q' := snd_E b g h2
              exact ⟨pe_or_ q.1 (pe_one q'.1), (pt_or_ q.2 (pw_or1 q'.2)).pt⟩
            | cons z2 r =>
              obtain ⟨h1, h2⟩ := and2 (show (chkE N sc a y && chkE N sc b (.BoolOp .Or (z :: z2 :: r) p)) = true from h)
              have q := snd_E a g h1
              have q' := snd_E b g h2
              exact ⟨pe_or_ q.1 q'.1, (pt_or_ q.2 (pw_of q'.2)).pt⟩
    | _ => cases h
  | .ite c a b, sc, st, X, x, g, h => by
    cases x with
    | IfExp y z z2 p =>
      obtain ⟨h1, h2, h3⟩ := and3 (show (chkE N sc c y && chkE N sc a z && chkE N sc b z2) = true from h)
      have q := snd_E c g h1
      have q1 := snd_E a g h2
      have q2 := snd_E b g h3
      exact ⟨pe_ite_ q.2 q1.1 q2.1, pt_ite_ q.2 q1.2 q2.2⟩
    | _ => cases h
  | .idx a b, sc, st, X, x, g, h => by
    cases x with
    | Subscript y z p =>
      have h : (chkE N sc a y && chkE N sc b z) = true := by cases z <;> exact h
      obtain ⟨h1, h2⟩ := and2 h
      exact .of (pe_idx_ g (plainIx h2) (snd_E a g h1).1 (snd_E b g h2).1) fun _ => rfl
    | _ => cases h
  | .slL a b, sc, st, X, x, g, h => by
    cases x with
    | Subscript y z p =>
      cases z with
      | Slice lo hi sp p2 =>
        cases lo <;> cases hi <;> cases sp <;> first | (cases h; done) | skip
        obtain ⟨h1, h2⟩ := and2 (show (chkE N sc a y && chkE N sc b _) = true from h)
        exact .of (pe_slL_ (snd_E a g h1).1 (snd_E b g h2).1) fun _ => rfl
      | _ => cases h
    | _ => cases h
  | .slU a b, sc, st, X, x, g, h => by
    cases x with
    | Subscript y z p =>
      cases z with
      | Slice lo hi sp p2 =>
        cases lo <;> cases hi <;> cases sp <;> first | (cases h; done) | skip
        obtain ⟨h1, h2⟩ := and2 (show (chkE N sc a y && chkE N sc b _) = true from h)
        exact .of (pe_slU_ (snd_E a g h1).1 (snd_E b g h2).1) fun _ => rfl
      | _ => cases h
    | _ => cases h
  | .slLU a b c, sc, st, X, x, g, h => by
    cases x with
    | Subscript y z p =>
      cases z with
      | Slice lo hi sp p2 =>
        cases lo <;> cases hi <;> cases sp <;> first | (cases h; done) | skip
        obtain ⟨h1, h2, h3⟩ := and3 (show (chkE N sc a y && chkE N sc b _ && chkE N sc c _) = true from h)
        exact .of (pe_slLU_ (snd_E a g h1).1 (snd_E b g h2).1 (snd_E c g h3).1) fun _ => rfl
      | _ => cases h
    | _ => cases h
  | .rev a, sc, st, X, x, g, h => by
    unfold chkE at h
    split at h <;> rename_i hh <;> first | (cases hh; done) | (cases h; done) | skip
    cases hh
    exact .of (pe_rev_ (snd_E a g h).1) fun _ => rfl
  | .b1 f a, sc, st, X, x, g, h => by
    cases x with
    | Call n as kws p =>
      cases as with
      | nil => cases h
      | cons y ys =>
        cases ys with
        | cons _ _ => cases h
        | nil =>
          cases kws with
          | cons _ _ => cases h
          | nil =>
            obtain ⟨h1, h2⟩ := and2 (show (chkGl sc (b1N f) n && chkE N sc a y) = true from h)
            exact .of (pe_b1_ g h1 (noStar h2) (snd_E a g h2).1) fun _ => rfl
    | _ => cases h
  | .b2 f a b, sc, st, X, x, g, h => by
    cases x with
    | Call n as kws p =>
      cases as with
      | nil => cases h
      | cons y ys =>
        cases ys with
        | nil => cases h
        | cons z zs =>
          cases zs with
          | cons _ _ => cases h
          | nil =>
            cases kws with
            | cons _ _ => cases h
            | nil =>
              obtain ⟨h1, h2, h3⟩ := and3 (show (chkGl sc (b2N f) n && chkE N sc a y && chkE N sc b z) = true from h)
              exact .of (pe_b2_ g h1 (noStar h2) (noStar h3) (snd_E a g h2).1 (snd_E b g h3).1) fun _ => rfl
    | _ => cases h
  | .m1 f a b, sc, st, X, x, g, h => by
    cases f <;> first | (cases x <;> cases h; done) | skip
    unfold chkE at h
    split at h <;> rename_i hh <;> first | (cases hh; done) | (cases h; done) | skip
    cases hh
    obtain ⟨h, h5⟩ := and2 h
    obtain ⟨h1, h2, h3, h4⟩ := and4 h
    have h2 := of_decide_eq_true h2
    subst h2
    exact .of (pe_get1_ g h1 h3 h5 (snd_E a g h4).1 (snd_E b g h5).1) fun _ => rfl
  | .fl i k, sc, st, X, x, g, h => by
    unfold chkE at h
    split at h <;> rename_i hh <;> first | (cases hh; done) | (cases h; done) | skip
    cases hh
    obtain ⟨h1, h2⟩ := and2 h
    have h2 := of_decide_eq_true h2
    subst h2
    exact .of (pe_fl_ g h1) fun _ => rfl
  | .mkS c m, sc, st, X, x, g, h => by
    unfold chkE at h
    split at h <;> rename_i hh <;> first | (cases hh; done) | (cases h; done) | skip
    cases hh
    simp only [Bool.and_eq_true, decide_eq_true_eq] at h
    obtain ⟨⟨⟨⟨⟨⟨⟨h1, h2⟩, h3⟩, h4⟩, h5⟩, h6⟩, h7⟩, h8⟩ := h
    subst h1 h2 h3 h4 h5 h6
    exact .of (pe_mkS_ g (snd_E c g h7).1 (snd_E m g h8).1) fun _ => rfl
  | .get2 a b c, sc, st, X, x, g, h => by
    unfold chkE at h
    split at h <;> rename_i hh <;> first | (cases hh; done) | (cases h; done) | skip
    cases hh
    obtain ⟨h, h6⟩ := and2 h
    obtain ⟨h, h5⟩ := and2 h
    obtain ⟨h1, h2, h3, h4⟩ := and4 h
    have h2 := of_decide_eq_true h2
    subst h2
    exact .of (pe_get2_ g h1 h3 h5 h6 (snd_E a g h4).1 (snd_E b g h5).1 (snd_E c g h6).1) fun _ => rfl
  | .dict ks vs, sc, st, X, x, g, h => by
    cases x with
    | Dict kx vx p =>
      obtain ⟨h1, h2, h3, h4⟩ := and4 (show (chkKs ks kx && noSt vs && decide (kx.length = vx.length) && chkL N sc vs vx) = true from h)
      have h3 := of_decide_eq_true h3
      by_cases h0 : kx = []
      · subst h0
        have hv : vx = [] := List.eq_nil_of_length_eq_zero (by rw [← h3]; rfl)
        subst hv
        cases ks with
        | cons k ks => cases k <;> cases h1
        | nil =>
          cases vs with
          | nil => exact .of pe_dict0_ fun _ => rfl
          | cons _ _ => cases h4
          | star _ _ => cases h2
      · obtain ⟨trs, d⟩ := snd_V vs g ks kx vx p h1 h2 h3 h4
        exact .of (pe_dict_ h0 d) fun _ => rfl
    | _ => cases h
  | .litems i, sc, st, X, x, g, h => by
    unfold chkE at h
    split at h <;> rename_i hh <;> first | (cases hh; done) | (cases h; done) | skip
    cases hh
    obtain ⟨h1, h2, h3, h4⟩ := and4 h
    have h2 := of_decide_eq_true h2
    subst h2
    exact .of (pe_litems_ g h1 h3 h4) fun _ => rfl
  | .io _, _, _, _, x, g, h => by cases x <;> cases h
  | .call f as, sc, st, X, x, g, h => by
    cases x with
    | Call n l kws p =>
      cases l with
      | nil => cases h
      | cons y ys =>
        cases kws with
        | cons _ _ => cases h
        | nil =>
          obtain ⟨h1, h2⟩ := and2 (show (chkGl sc f n && chkA N sc as (y :: ys)) = true from h)
          obtain ⟨k1, k2, k3⟩ := snd_A as g h2
          exact .of (pe_call_ g h1 k1 (k2 y ys rfl) (k3 y ys rfl p)) fun _ => rfl
    | _ => cases h
  | .app i a, sc, st, X, x, g, h => by
    unfold chkE at h
    split at h <;> rename_i hh <;> first | (cases hh; done) | (cases h; done) | skip
    cases hh
    obtain ⟨h1, h2, h3, h4⟩ := and4 h
    have h2 := of_decide_eq_true h2
    subst h2
    exact .of (pe_app_ g h1 h3 (noStar h4) (snd_E a g h4).1) fun _ => rfl
  | .ext i a, sc, st, X, x, g, h => by
    unfold chkE at h
    split at h <;> rename_i hh <;> first | (cases hh; done) | (cases h; done) | skip
    cases hh
    obtain ⟨h1, h2, h3, h4⟩ := and4 h
    have h2 := of_decide_eq_true h2
    subst h2
    exact .of (pe_ext_ g h1 h3 (noStar h4) (snd_E a g h4).1) fun _ => rfl
  | .pop i, sc, st, X, x, g, h => by
    unfold chkE at h
    split at h <;> rename_i hh <;> first | (cases hh; done) | (cases h; done) | skip
    cases hh
    obtain ⟨h1, h2, h3⟩ := and3 h
    have h2 := of_decide_eq_true h2
    subst h2
    exact .of (pe_pop_ g h1 h3) fun _ => rfl
  | .lrg a b, sc, st, X, x, g, h => by
    unfold chkE at h
    split at h <;> rename_i hh <;> first | (cases hh; done) | (cases h; done) | skip
    cases hh
    obtain ⟨h1, h2, h3, h4⟩ := and4 h
    exact .of (pe_lrg_ g h1 h2 (noStar h3) (noStar h4) (snd_E a g h3).1 (snd_E b g h4).1) fun _ => rfl
  | .comp elt p it own, sc, st, X, x, g, h => by
    unfold chkE at h
    split at h <;> rename_i hh <;> first | (cases hh; done) | (cases h; done) | skip
    cases hh
    obtain ⟨h, h5⟩ := and2 h
    obtain ⟨h1, h2, h3, h4⟩ := and4 h
    refine .of (lockIt (it := it) (pe_w (pe_lc (g := tG X.K p) (tt := tYes) (te := tK X.K fun ρ => keepS (ev cl elt ρ)) g.calm (by rw [g.eN]; exact g.nd) (snd_I it g h5) (by rw [g.eN, g.es]; exact blkOk_by h1) (fun s H C cs fp => pg_ (g.blk s H _ cs C fp) p _ h3) (fun s H C cs fp => pts_nil) (fun s H C cs fp => pe_k (snd_E elt (g.blk s H _ cs C fp) h4).1) (notSet_fold (chkI_set h5) _)) fun σ H Q q => ?_) fun ρ => rfl) fun _ => rfl
    rw [own_map]
    exact ⟨q.1, comp_w (all_own h2) σ H Q q.2⟩
  | .compIf elt p it own c, sc, st, X, x, g, h => by
    unfold chkE at h
    split at h <;> rename_i hh <;> first | (cases hh; done) | (cases h; done) | skip
    cases hh
    obtain ⟨h, h6⟩ := and2 h
    obtain ⟨h, h5⟩ := and2 h
    obtain ⟨h1, h2, h3, h4⟩ := and4 h
    refine .of (lockIt (it := it) (pe_w (pe_lc (g := tG X.K p) (tt := tT X.K (tv cl c)) (te := tK X.K fun ρ => keepS (ev cl elt ρ)) g.calm (by rw [g.eN]; exact g.nd) (snd_I it g h6) (by rw [g.eN, g.es]; exact blkOk_by h1) (fun s H C cs fp => pg_ (g.blk s H _ cs C fp) p _ h3) (fun s H C cs fp => pts_one (snd_E c (g.blk s H _ cs C fp) h5).2) (fun s H C cs fp => pe_k (snd_E elt (g.blk s H _ cs C fp) h4).1) (notSet_fold (chkI_set h6) _)) fun σ H Q q => ?_) fun ρ => rfl) fun _ => rfl
    rw [own_map]
    exact ⟨q.1, compIf_w (all_own h2) σ H Q q.2⟩
  | .dcomp k v p it own, sc, st, X, x, g, h => by
    unfold chkE at h
    split at h <;> rename_i hh <;> first | (cases hh; done) | (cases h; done) | skip
    cases hh
    obtain ⟨h, h6⟩ := and2 h
    obtain ⟨h, h5⟩ := and2 h
    obtain ⟨h1, h2, h3, h4⟩ := and4 h
    refine .of (lockIt (it := it) (pe_w (pe_dc (g := tG X.K p) (tt := tYes) (tk := tK X.K fun ρ => keepS (ev cl k ρ)) (tv := tK X.K fun ρ => keepS (ev cl v ρ)) g.calm (by rw [g.eN]; exact g.nd) (snd_I it g h6) (by rw [g.eN, g.es]; exact blkOk_by h1) (fun s H C cs fp => pg_ (g.blk s H _ cs C fp) p _ h3) (fun s H C cs fp => pts_nil) (fun s H C cs fp => pe_k (snd_E k (g.blk s H _ cs C fp) h4).1) (fun s H C cs fp => pe_k (snd_E v (g.blk s H _ cs C fp) h5).1) (notSet_fold (chkI_set h6) _)) fun σ H Q q => ?_) fun ρ => rfl) fun _ => rfl
    rw [own_map]
    exact ⟨q.1, dc_any (all_own h2) σ H Q q.2⟩
theorem snd_L : ∀ (es : Es) {sc st : Scope} {X : Cx} {l : List Expr}, Gd cl N sc st X → chkL N sc es l = true → PA X l (tL X.K (evL cl es))
  | .nil, sc, st, X, l, g, h => by
    cases l with
    | nil => exact pa_nil_
    | cons _ _ => cases h
  | .cons a r, sc, st, X, l, g, h => by
    cases l with
    | nil => cases h
    | cons x xs =>
      have h : (chkE N sc a x && chkL N sc r xs) = true := by cases x <;> exact h
      obtain ⟨h1, h2⟩ := and2 h
      exact pa_cons_ (snd_E a g h1).1 (snd_L r g h2) (noStar h1 _ _)
  | .star a r, sc, st, X, l, g, h => by
    cases l with
    | nil => cases h
    | cons x xs =>
      cases x with
      | Starred y p =>
        obtain ⟨h1, h2⟩ := and2 (show (chkE N sc a y && chkL N sc r xs) = true from h)
        exact pa_star_ (snd_E a g h1).1 (snd_L r g h2)
      | _ => cases h
theorem snd_A : ∀ (es : Es) {sc st : Scope} {X : Cx} {l : List Expr}, Gd cl N sc st X → chkA N sc es l = true → PA X l (tA X.K (evA cl es)) ∧ (∀ x xs, l = x :: xs → starEach (x :: xs) X.env = (false, eval x X.env) :: starEach xs X.env) ∧
    ∀ x xs, l = x :: xs → ∀ pos : Pos, (backTo pos (starEach xs X.env)).any (·.1) = false
  | .nil, sc, st, X, l, g, h => by
    cases l with
    | nil => exact ⟨paA_nil, (fun _ _ e => by cases e), (fun _ _ e => by cases e)⟩
    | cons _ _ => cases h
  | .cons a r, sc, st, X, l, g, h => by
    cases l with
    | nil => cases a <;> cases h
    | cons x xs =>
      by_cases hio : ∃ i, a = .io i
      · obtain ⟨i, rfl⟩ := hio
        obtain ⟨h1, h2⟩ := and2 (show (chkNm N sc i x && chkA N sc r xs) = true from h)
        obtain ⟨k1, k2, k3⟩ := snd_A r g h2
        have hs : ∀ env, starEach (x :: xs) env = (false, eval x env) :: starEach xs env := fun env => by
          cases x <;> first | rfl | cases h1
        refine ⟨paA_io g h1 k1, fun y ys e => by cases e; exact hs _, fun y ys e => ?_⟩
        cases e
        exact noAny r h2
      · have h' : (chkE N sc a x && chkA N sc r xs) = true := by
          cases a <;> first | exact h | exact absurd ⟨_, rfl⟩ hio
        obtain ⟨h1, h2⟩ := and2 h'
        obtain ⟨k1, k2, k3⟩ := snd_A r g h2
        refine ⟨paA_cons (fun i e => hio ⟨i, e⟩) (snd_E a g h1).1 k1 (noStar h1 _ _), fun y ys e => by cases e; exact noStar h1 _ _, fun y ys e => ?_⟩
        cases e
        exact noAny r h2
  | .star a r, sc, st, X, l, g, h => by cases l <;> cases h
theorem snd_V : ∀ (es : Es) {sc st : Scope} {X : Cx}, Gd cl N sc st X → ∀ (ks : List (Int ⊕ Str)) (kx : List (Option Expr)) (vx : List Expr) (pos : Pos), chkKs ks kx = true → noSt es = true → kx.length = vx.length → chkL N sc es vx = true → ∃ trs, Dsp X cl pos ks es kx vx trs
  | .nil, sc, st, X, g, ks, kx, vx, pos, h1, h2, h3, h4 => by
    cases vx with
    | cons _ _ => cases h4
    | nil =>
      cases kx with
      | cons _ _ => cases h3
      | nil =>
        cases ks with
        | cons k _ => cases k <;> cases h1
        | nil => exact ⟨_, dsp_nil⟩
  | .star _ _, sc, st, X, g, ks, kx, vx, pos, h1, h2, h3, h4 => by cases h2
  | .cons a r, sc, st, X, g, ks, kx, vx, pos, h1, h2, h3, h4 => by
    cases vx with
    | nil => cases h4
    | cons x vx =>
      cases kx with
      | nil => cases h3
      | cons k0 kx =>
        obtain ⟨c1, c2⟩ := and2 (show (chkE N sc a x && chkL N sc r vx) = true from h4)
        cases ks with
        | nil => cases h1
        | cons k ks =>
          unfold chkKs at h1
          split at h1 <;> rename_i hh hh2 <;> first | (cases hh; done) | skip
          · cases hh
            cases hh2
            obtain ⟨d1, d2⟩ := and2 h1
            have d1 := of_decide_eq_true d1
            subst d1
            obtain ⟨trs, d⟩ := snd_V r g ks kx vx pos d2 h2 (by simpa using h3) c2
            exact ⟨_, dsp_cons (k := .inl _) pe_int (snd_E a g c1).1 d⟩
          · cases hh
            cases hh2
            obtain ⟨d1, d2⟩ := and2 h1
            have d1 := of_decide_eq_true d1
            subst d1
            obtain ⟨trs, d⟩ := snd_V r g ks kx vx pos d2 h2 (by simpa using h3) c2
            exact ⟨_, dsp_cons (k := .inr _) pe_str (snd_E a g c1).1 d⟩
          · cases h1
theorem snd_I : ∀ (it : It) {sc st : Scope} {X : Cx} {x tg : Expr}, Gd cl N sc st X → chkI N sc it x tg = true → PI X tg x (tIL X.K cl it)
  | .e a, sc, st, X, x, tg, g, h => pi_w (pi_e_ (snd_E a g (show chkE N sc a x = true by cases x <;> exact h)).1) fun σ H R q => q.2
  | .scr i, sc, st, X, x, tg, g, h => pi_w (pi_scr_ g (show chkNm N sc i x = true by cases x <;> exact h)) fun σ H R q => q.2
  | .rng1 a, sc, st, X, x, tg, g, h => by
    unfold chkI at h
    split at h <;> rename_i hh <;> first | (cases hh; done) | (cases h; done) | skip
    cases hh
    obtain ⟨h1, h2⟩ := and2 h
    exact pi_w (pi_rng1_ g h1 (noStar h2) (snd_E a g h2).1) fun σ H R q => q.2
  | .rng2 a b, sc, st, X, x, tg, g, h => by
    unfold chkI at h
    split at h <;> rename_i hh <;> first | (cases hh; done) | (cases h; done) | skip
    cases hh
    obtain ⟨h1, h2, h3⟩ := and3 h
    exact pi_w (pi_rng2_ g h1 (noStar h2) (noStar h3) (snd_E a g h2).1 (snd_E b g h3).1) fun σ H R q => q.2
  | .rng3 a b c, sc, st, X, x, tg, g, h => by
    unfold chkI at h
    split at h <;> rename_i hh <;> first | (cases hh; done) | (cases h; done) | skip
    cases hh
    obtain ⟨h1, h2, h3, h4⟩ := and4 h
    exact pi_w (pi_rng3_ g h1 (noStar h2) (noStar h3) (noStar h4) (snd_E a g h2).1 (snd_E b g h3).1 (snd_E c g h4).1) fun σ H R q => q.2
  | .enum a, sc, st, X, x, tg, g, h => by
    unfold chkI at h
    split at h <;> rename_i hh <;> first | (cases hh; done) | (cases h; done) | skip
    cases hh
    obtain ⟨h1, h2⟩ := and2 h
    exact pi_w (pi_enum_ g h1 (noStar h2) (snd_E a g h2).1) fun σ H R q => q.2
  | .zip a b, sc, st, X, x, tg, g, h => by
    unfold chkI at h
    split at h <;> rename_i hh <;> first | (cases hh; done) | (cases h; done) | skip
    cases hh
    obtain ⟨h1, h2, h3⟩ := and3 h
    exact pi_w (pi_zip_ g h1 (noStar h2) (noStar h3) (snd_E a g h2).1 (snd_E b g h3).1) fun σ H R q => q.2
  | .zip3 _ _ _, _, _, _, x, tg, g, h => by cases x <;> cases h
  | .items i, sc, st, X, x, tg, g, h => by
    unfold chkI at h
    split at h <;> rename_i hh <;> first | (cases hh; done) | (cases h; done) | skip
    cases hh
    obtain ⟨h1, h2, h3⟩ := and3 h
    have h2 := of_decide_eq_true h2
    subst h2
    exact pi_items_ g h1 h3
  | .keys i, sc, st, X, x, tg, g, h => pi_keys_ g (show chkNm N sc i x = true by cases x <;> exact h)
end
end
end Mini

end
section
set_option Elab.async false
set_option linter.all false
set_option maxRecDepth 100000
set_option maxHeartbeats 4000000
/-! Mini, part 18: statements. -/
namespace Mini
open PySem PySem.Spec PyProof.Rows L2
/-- a statement has run: the slots in as may be others -/
structure GoS (K : PySem.W.Frag) (S : Addr → Prop) (F : Fs) (σ : L2.St) (H : Hp) (as : List Nat) (F' : Fs) (σ' : L2.St) (ρ' : En) (H' : Hp) : Prop where
  env : EnvOk K S F' ρ' σ' H'
  fr : Fr F H F' H'
  sub : ∀ i, i ∉ as → (F' i = F i ∨ F' i = []) ∧ σ'[i]? = σ[i]?
structure RtS (K : PySem.W.Frag) (S : Addr → Prop) (F : Fs) (σ : L2.St) (H : Hp) (as : List Nat) (r : Sl) (ρ' : En) (v : V) (F' : Fs) (σ' : L2.St) (H' : Hp) (A : List Addr) : Prop where
  env : EnvOk K (addS S A) F' ρ' σ' H'
  ok : okFl r.1 = true
  res : SlotRep K (Wt (addS S A) F') H' r.1 v r.2 A
  fr : Fr F H F' H'
  sub : ∀ i, i ∉ as → (F' i = F i ∨ F' i = []) ∧ σ'[i]? = σ[i]?
  new : ∀ a ∈ A, (∃ j, a ∈ F j) ∨ H a = none
  apart : ∀ a ∈ A, ¬ S a
/-- the ends that an outcome asks for -/
def Ask (K : PySem.W.Frag) (S : Addr → Prop) (F : Fs) (σ : L2.St) (H : Hp) (as : List Nat) (D : Ends) : Out → Prop
  | .nx ρ' => ∀ F' σ' H', GoS K S F σ H as F' σ' ρ' H' → D.nx σ' H'
  | .bk ρ' => ∀ F' σ' H', GoS K S F σ H as F' σ' ρ' H' → D.bk σ' H'
  | .ct ρ' => ∀ F' σ' H', GoS K S F σ H as F' σ' ρ' H' → D.ct σ' H'
  | .rt r ρ' => ∀ v F' σ' H' A, RtS K S F σ H as r ρ' v F' σ' H' A → D.rt v H'
def tSt (K : PySem.W.Frag) (f : En → Option Out) (as : List Nat) : TS := fun D σ H => ∃ S F ρ o, EnvOk K S F ρ σ H ∧ f ρ = some o ∧ Ask K S F σ H as D o
mutual
def asgS : S → List Nat
  | .asg p _ => slots p
  | .par ps _ => slotss ps
  | .ifs _ a b => asgSs a ++ asgSs b
  | .whl _ b => asgSs b
  | .for_ p _ b => slots p ++ asgSs b
  | _ => []
def asgSs : Ss → List Nat
  | .nil => []
  | .cons s r => asgS s ++ asgSs r
  | .pull _ j r => j :: asgSs r
end
section
variable {K : PySem.W.Frag} {S : Addr → Prop} {F F1 F2 : Fs} {σ σ1 σ2 : L2.St} {H H1 H2 : Hp} {ρ ρ1 ρ2 : En} {as as' bs : List Nat} {D D' : Ends} {o : Out}
theorem GoS.refl (e : EnvOk K S F ρ σ H) : GoS K S F σ H as F σ ρ H := ⟨e, Fr.refl F H, fun _ _ => ⟨.inl rfl, rfl⟩⟩
theorem GoS.of (g : Go K S F σ H F1 ρ1 H1) : GoS K S F σ H as F1 σ ρ1 H1 := ⟨g.env, g.fr, fun i _ => ⟨g.sub i, rfl⟩⟩
theorem sub_trans {i : Nat} (a : (F1 i = F i ∨ F1 i = []) ∧ σ1[i]? = σ[i]?) (b : (F2 i = F1 i ∨ F2 i = []) ∧ σ2[i]? = σ1[i]?) : (F2 i = F i ∨ F2 i = []) ∧ σ2[i]? = σ[i]? := by
  refine ⟨?_, b.2.trans a.2⟩
  rcases b.1 with e | e
  · rw [e]; exact a.1
  · exact .inr e
theorem GoS.trans (a : GoS K S F σ H as F1 σ1 ρ1 H1) (b : GoS K S F1 σ1 H1 as' F2 σ2 ρ2 H2) (h : ∀ i, i ∈ as → i ∈ bs) (h' : ∀ i, i ∈ as' → i ∈ bs) : GoS K S F σ H bs F2 σ2 ρ2 H2 :=
  ⟨b.env, a.fr.trans b.fr, fun i hi => sub_trans (a.sub i fun z => hi (h i z)) (b.sub i fun z => hi (h' i z))⟩
theorem RtS.trans {r : Sl} {v : V} {A : List Addr} (a : GoS K S F σ H as F1 σ1 ρ1 H1) (b : RtS K S F1 σ1 H1 as' r ρ2 v F2 σ2 H2 A) (h : ∀ i, i ∈ as → i ∈ bs) (h' : ∀ i, i ∈ as' → i ∈ bs) : RtS K S F σ H bs r ρ2 v F2 σ2 H2 A :=
  ⟨b.env, b.ok, b.res, a.fr.trans b.fr, fun i hi => sub_trans (a.sub i fun z => hi (h i z)) (b.sub i fun z => hi (h' i z)), fun c hc => by
    rcases b.new c hc with ⟨j, hj⟩ | hn
    · exact a.fr.new j c hj
    · cases q : H c with
      | none => exact .inr rfl
      | some u => exact absurd hn (a.fr.there c (by rw [q]; exact Option.some_ne_none _)), b.apart⟩
/-- from a later place on -/
theorem Ask.later (a : GoS K S F σ H as F1 σ1 ρ1 H1) (h : ∀ i, i ∈ as → i ∈ bs) (h' : ∀ i, i ∈ as' → i ∈ bs) (k : Ask K S F σ H bs D o) : Ask K S F1 σ1 H1 as' D o := by
  cases o with
  | nx ρ' => exact fun F' σ' H' g => k F' σ' H' (a.trans g h h')
  | bk ρ' => exact fun F' σ' H' g => k F' σ' H' (a.trans g h h')
  | ct ρ' => exact fun F' σ' H' g => k F' σ' H' (a.trans g h h')
  | rt r ρ' => exact fun v F' σ' H' A g => k v F' σ' H' A (RtS.trans a g h h')
end
section
variable {X : Cx} {cl : CallS} {N : List Str} {sc : Scope}
theorem ps_w {s : Stmt} {t t' : TS} (h : PS X s t) (w : ∀ D σ H, t' D σ H → t D σ H) : PS X s t' := ⟨fun pins s σ H D I q => h.run pins s σ H D I (w D σ H q)⟩
theorem pss_w {s : List Stmt} {t t' : TS} (h : PSs X s t) (w : ∀ D σ H, t' D σ H → t D σ H) : PSs X s t' := ⟨fun pins s σ H D I q => h.run pins s σ H D I (w D σ H q)⟩
theorem st_nil {fuel : Nat} : PSs X [] (tSt X.K (exs cl fuel .nil) []) := pss_w pss_nil fun D σ H ⟨S, F, ρ, o, e, h, k⟩ => by
  simp only [exs] at h
  cases h
  exact k F σ H (GoS.refl e)
theorem st_cons {fuel : Nat} {s : Mini.S} {r : Ss} {st : Stmt} {rest : List Stmt} (h1 : PS X st (tSt X.K (ex cl fuel s) (asgS s))) (h2 : PSs X rest (tSt X.K (exs cl fuel r) (asgSs r))) : PSs X (st :: rest) (tSt X.K (exs cl fuel (.cons s r)) (asgSs (.cons s r))) :=
  pss_w (pss_cons h1 h2) fun D σ H ⟨S, F, ρ, o, e, h, k⟩ => by
    have i1 : ∀ i, i ∈ asgS s → i ∈ asgSs (.cons s r) := fun i hi => List.mem_append_left _ hi
    have i2 : ∀ i, i ∈ asgSs r → i ∈ asgSs (.cons s r) := fun i hi => List.mem_append_right _ hi
    simp only [exs] at h
    cases e1 : ex cl fuel s ρ with
    | none => rw [e1] at h; cases h
    | some o1 =>
      rw [e1] at h
      refine ⟨S, F, ρ, o1, e, e1, ?_⟩
      cases o1 with
      | nx ρ1 => exact fun F1 σ1 H1 g1 => ⟨S, F1, ρ1, o, g1.env, h, k.later g1 i1 i2⟩
      | bk ρ1 => cases h; exact fun F1 σ1 H1 g1 => k F1 σ1 H1 ⟨g1.env, g1.fr, fun i hi => g1.sub i fun z => hi (i1 i z)⟩
      | ct ρ1 => cases h; exact fun F1 σ1 H1 g1 => k F1 σ1 H1 ⟨g1.env, g1.fr, fun i hi => g1.sub i fun z => hi (i1 i z)⟩
      | rt r1 ρ1 => cases h; exact fun v F1 σ1 H1 A g1 => k v F1 σ1 H1 A ⟨g1.env, g1.ok, g1.res, g1.fr, fun i hi => g1.sub i fun z => hi (i1 i z), g1.new, g1.apart⟩
theorem st_ret {fuel : Nat} {e : E} {x : Expr} {pos : Pos} (h : PE X x (tD X.K (ev cl e))) : PS X (.Return (some x) pos) (tSt X.K (ex cl fuel (.ret e)) []) := ps_w (ps_ret h) fun D σ H ⟨S, F, ρ, o, en, h, k⟩ => by
  simp only [ex] at h
  obtain ⟨r, e1, h⟩ := bindS h
  obtain ⟨c, h⟩ := iteS h
  cases h
  refine ⟨S, F, ρ, r, en, e1, fun v H1 F1 A p => k v F1 σ H1 A ⟨p.env, c, ?_, p.fr, fun i _ => ⟨p.sub i, rfl⟩, p.new, p.apart⟩⟩
  obtain ⟨⟨fl, d⟩, ρ'⟩ := r
  cases p.res with
  | slot _ q => exact q
  | bo _ _ => cases c
theorem st_retN {fuel : Nat} {pos : Pos} : PS X (.Return none pos) (tSt X.K (ex cl fuel .retN) []) := ps_w ps_retN fun D σ H ⟨S, F, ρ, o, en, h, k⟩ => by
  simp only [ex] at h
  cases h
  exact k .non F σ H [] ⟨en.nil, rfl, .sh rfl, Fr.refl F H, fun i _ => ⟨.inl rfl, rfl⟩, fun a h => (by cases h), fun a h => (by cases h)⟩
theorem st_exp {fuel : Nat} {e : E} {x : Expr} {pos : Pos} (h : PE X x (tD X.K (ev cl e))) (hs : swapsWith x none pos.line X.env = pure false) : PS X (.Expr x pos) (tSt X.K (ex cl fuel (.exp e)) []) := ps_w (ps_expr h hs) fun D σ H ⟨S, F, ρ, o, en, h, k⟩ => by
  simp only [ex] at h
  obtain ⟨r, e1, rfl⟩ := mapS h
  exact ⟨S, F, ρ, r, en, e1, fun v H1 F1 A p => k F1 σ H1 (.of p.go)⟩
theorem st_pass {fuel : Nat} {pos : Pos} : PS X (.Pass pos) (tSt X.K (ex cl fuel .pass) []) := ps_w ps_pass fun D σ H ⟨S, F, ρ, o, en, h, k⟩ => by
  simp only [ex] at h
  cases h
  exact k F σ H (.refl en)
theorem st_brk {fuel : Nat} {pos : Pos} : PS X (.Break pos) (tSt X.K (ex cl fuel .brk) []) := ps_w ps_break fun D σ H ⟨S, F, ρ, o, en, h, k⟩ => by
  simp only [ex] at h
  cases h
  exact k F σ H (.refl en)
theorem st_cnt {fuel : Nat} {pos : Pos} : PS X (.Continue pos) (tSt X.K (ex cl fuel .cnt) []) := ps_w ps_continue fun D σ H ⟨S, F, ρ, o, en, h, k⟩ => by
  simp only [ex] at h
  cases h
  exact k F σ H (.refl en)
theorem st_never {fuel : Nat} {s : Stmt} : PS X s (tSt X.K (ex cl fuel .never) []) := ps_w ps_never fun D σ H ⟨S, F, ρ, o, en, h, k⟩ => by
  simp only [ex] at h
  cases h
theorem st_if {fuel : Nat} {c : E} {a b : Ss} {x : Expr} {l m : List Stmt} {pos : Pos} (hc : PT X x (tT X.K (tv cl c))) (ha : PSs X l (tSt X.K (exs cl fuel a) (asgSs a))) (hb : PSs X m (tSt X.K (exs cl fuel b) (asgSs b))) :
    PS X (.If x l m pos) (tSt X.K (ex cl fuel (.ifs c a b)) (asgS (.ifs c a b))) := ps_w (ps_if hc ha hb) fun D σ H ⟨S, F, ρ, o, en, h, k⟩ => by
  simp only [ex] at h
  obtain ⟨⟨t, ρ1⟩, e1, h⟩ := bindS h
  refine ⟨S, F, ρ, _, en, e1, fun H1 F1 g1 => ?_⟩
  cases t with
  | true => exact ⟨S, F1, ρ1, o, g1.env, h, k.later (as := []) (.of g1) (fun i hi => by cases hi) fun i hi => List.mem_append_left _ hi⟩
  | false => exact ⟨S, F1, ρ1, o, g1.env, h, k.later (as := []) (.of g1) (fun i hi => by cases hi) fun i hi => List.mem_append_right _ hi⟩
theorem st_while (g : Gd cl N sc sc X) {fuel : Nat} {c : E} {b : Ss} {x : Expr} {l : List Stmt} {pos : Pos} (hc : PT X x (tT X.K (tv cl c))) (hb : PSs X l (tSt X.K (exs cl fuel b) (asgSs b))) :
    PS X (.While x l [] pos) (tSt X.K (ex cl fuel (.whl c b)) (asgS (.whl c b))) := ps_w (ps_while (by rw [g.xe]; exact PassesOwn.never) hc hb) fun D σ H ⟨S, F, ρ, o, en, h, k⟩ => by
  simp only [ex] at h
  refine ⟨fun m σ1 H1 => ∃ F1 ρ1, GoS X.K S F σ H (asgSs b) F1 σ1 ρ1 H1 ∧ whL (tv cl c) (exs cl fuel b) m ρ1 = some o, ⟨fuel, F, ρ, .refl en, h⟩, ?_⟩
  rintro m σ1 H1 ⟨F1, ρ1, g1, h1⟩
  have id' : ∀ i, i ∈ asgSs b → i ∈ asgSs b := fun _ h => h
  have no : ∀ i, i ∈ ([] : List Nat) → i ∈ asgSs b := fun _ h => by cases h
  cases m with
  | zero => cases h1
  | succ m =>
    simp only [whL] at h1
    cases e1 : tv cl c ρ1 with
    | none => rw [e1] at h1; cases h1
    | some t =>
      obtain ⟨t, ρ2⟩ := t
      rw [e1] at h1
      refine ⟨S, F1, ρ1, _, g1.env, e1, fun H2 F2 g2 => ?_⟩
      have g12 : GoS X.K S F σ H (asgSs b) F2 σ1 ρ2 H2 := g1.trans (as' := []) (.of g2) id' no
      cases t with
      | false =>
        cases h1
        exact k F2 σ1 H2 g12
      | true =>
        show ∃ N : L2.St → Hp → Prop, _
        refine ⟨fun σ' H' => ∃ F1 ρ1, GoS X.K S F σ H (asgSs b) F1 σ' ρ1 H' ∧ whL (tv cl c) (exs cl fuel b) m ρ1 = some o, fun σ' H' q => ⟨m, Nat.lt_succ_self m, q⟩, ?_⟩
        cases e3 : exs cl fuel b ρ2 with
        | none => simp only [e3] at h1; cases h1
        | some o3 =>
          simp only [e3] at h1
          refine ⟨S, F2, ρ2, o3, g2.env, e3, ?_⟩
          cases o3 with
          | nx ρ3 => exact fun F3 σ3 H3 g3 => ⟨F3, ρ3, g12.trans g3 id' id', h1⟩
          | ct ρ3 => exact fun F3 σ3 H3 g3 => ⟨F3, ρ3, g12.trans g3 id' id', h1⟩
          | bk ρ3 => cases h1; exact fun F3 σ3 H3 g3 => k F3 σ3 H3 (g12.trans g3 id' id')
          | rt r3 ρ3 => cases h1; exact fun v F3 σ3 H3 A g3 => k v F3 σ3 H3 A (RtS.trans g12 g3 id' id')
/-! ### under a lock -/
theorem GoS.unlock {K : PySem.W.Frag} {S : Addr → Prop} {F F' : Fs} {σ σ' : L2.St} {H H' : Hp} {ρ' : En} {as : List Nat} {d : Addr} {od : Obj} {kvs : List (Key × V)} (hd : H d = some (.dK kvs)) (hn : ¬ Wt S F d) (g : GoS K S F σ (upd H d (.frz od (.dK kvs))) as F' σ' ρ' H') :
    H' d = some (.frz od (.dK kvs)) ∧ GoS K S F σ H as F' σ' ρ' (upd H' d (.dK kvs)) := by
  obtain ⟨h1, h2, fr⟩ := g.fr.unlock hd (fun i z => hn (.inr ⟨i, z⟩))
  refine ⟨h1, g.env.unlock h1 fun z => ?_, fr, g.sub⟩
  rcases z with z | ⟨i, z⟩
  · exact hn (.inl z)
  · exact h2 i z
theorem RtS.unlock {K : PySem.W.Frag} {S : Addr → Prop} {F F' : Fs} {σ σ' : L2.St} {H H' : Hp} {ρ' : En} {as : List Nat} {r : Sl} {v : V} {A : List Addr} {d : Addr} {od : Obj} {kvs : List (Key × V)} (hd : H d = some (.dK kvs)) (hn : ¬ Wt S F d) (g : RtS K S F σ (upd H d (.frz od (.dK kvs))) as r ρ' v F' σ' H' A) :
    H' d = some (.frz od (.dK kvs)) ∧ RtS K S F σ H as r ρ' v F' σ' (upd H' d (.dK kvs)) A := by
  obtain ⟨h1, h2, fr⟩ := g.fr.unlock hd (fun i z => hn (.inr ⟨i, z⟩))
  have nA : d ∉ A := fun z => by
    rcases g.new d z with ⟨j, z⟩ | z
    · exact hn (.inr ⟨j, z⟩)
    · rw [upd_same] at z; cases z
  refine ⟨h1, g.env.unlock h1 fun z => ?_, g.ok, g.res.sm (sm_unlock h1) (fun a ha => upd_ne fun z => nA (z ▸ ha)), fr, g.sub, fun a ha => (g.new a ha).imp id fun z => ?_, g.apart⟩
  · rcases z with (z | z) | ⟨i, z⟩
    · exact hn (.inl z)
    · exact nA z
    · exact h2 i z
  · rwa [upd_ne (fun z2 : a = d => nA (z2 ▸ ha))] at z
theorem lockS {s : Stmt} {f : En → Option Out} {as : List Nat} {i : Nat} (h : PS X s (fun D σ H => Lk i σ H ∧ tSt X.K f as D σ H)) (hf : Shd f i) : PS X s (tSt X.K f as) := by
  have key : ∀ (pins : List (Addr × Obj)) (s0 : Shared) (σ : L2.St) (H : Hp) (D : Ends) (S : Addr → Prop) (F : Fs) (ρ : En) (o : Out) (es : List (Dt × Dt)), L2.Inv X pins σ H s0 → EnvOk X.K S F ρ σ H → f ρ = some o → rd ρ i = some (.sh, .dict es) →
      Ask X.K S F σ H as D o → ∃ t : TS, PS X s t ∧ t D σ H := by
    intro pins s0 σ H D S F ρ o es I e0 h1 hr h2
    obtain ⟨v, hv, q⟩ := e0.slot i _ _ hr
    generalize F i = A at q
    cases q with
    | sh q =>
      obtain ⟨a, kvs, rfl, ⟨hd, hw⟩, rk⟩ := q
      rcases hd with hd | ⟨o', hd⟩
      · refine ⟨_, ps_lock h, a, .dK kvs, hd, trivial, fun od => ⟨⟨a, od, kvs, hv, upd_same⟩, S, F, ρ, o, e0.lock hd hw, h1, ?_⟩⟩
        cases o with
        | nx ρ' => exact fun F' σ' H' g => ⟨(g.unlock hd hw).1, h2 F' σ' _ (g.unlock hd hw).2⟩
        | bk ρ' => exact fun F' σ' H' g => ⟨(g.unlock hd hw).1, h2 F' σ' _ (g.unlock hd hw).2⟩
        | ct ρ' => exact fun F' σ' H' g => ⟨(g.unlock hd hw).1, h2 F' σ' _ (g.unlock hd hw).2⟩
        | rt r ρ' => exact fun v F' σ' H' A g => ⟨(g.unlock hd hw).1, h2 v F' σ' _ A (g.unlock hd hw).2⟩
      · exact ⟨_, h, ⟨a, o', kvs, hv, hd⟩, S, F, ρ, o, e0, h1, h2⟩
  refine ⟨fun pins s0 σ H D I ⟨S, F, ρ, o, e0, h1, h2⟩ => ?_⟩
  obtain ⟨es, hr | ⟨hr, h3⟩⟩ := hf ρ o h1
  · obtain ⟨t, p, q⟩ := key pins s0 σ H D S F ρ o es I e0 h1 hr h2
    exact p.run pins s0 σ H D I q
  · obtain ⟨v, hv, e', _⟩ := e0.share hr
    obtain ⟨t, p, q⟩ := key pins s0 σ H D S _ _ o es I e' h3 (rd_shared hr) (h2.later (as := []) (.of ⟨e', setF_fr, setF_sub⟩) (fun i hi => by cases hi) fun i hi => hi)
    exact p.run pins s0 σ H D I q
theorem lockItS {it : It} {s : Stmt} {f : En → Option Out} {as : List Nat} {k : List Dt × En → Option Out} (h : PS X s (fun D σ H => Lkd it σ H ∧ tSt X.K f as D σ H)) (hf : ∀ ρ, f ρ = (evI cl it ρ).bind k) : PS X s (tSt X.K f as) := by
  cases it with
  | items i => exact lockS h (shd_I (.inl rfl) hf)
  | keys i => exact lockS h (shd_I (.inr rfl) hf)
  | _ => exact ps_w h fun D σ H q => ⟨trivial, q⟩
theorem st_for0 (g : Gd cl N sc sc X) {fuel : Nat} {p : Pat} {it : It} {b : Ss} {tg x : Expr} {l : List Stmt} {pos : Pos} (hi : PI X tg x (tIL X.K cl it)) (hp : chkP N sc p tg = true) (hfold : ∀ y, foldedSetIterable x X.env y = pure y) (hb : PSs X l (tSt X.K (exs cl fuel b) (asgSs b))) :
    PS X (.For tg x l [] pos) (fun D σ H => Lkd it σ H ∧ tSt X.K (ex cl fuel (.for_ p it b)) (asgS (.for_ p it b)) D σ H) := ps_w (ps_for (by rw [g.xe]; exact PassesOwn.never) g.calm hi (pg_ g p tg hp) hb hfold) fun D σ H ⟨hlk, S, F, ρ, o, en, h, k⟩ => by
  simp only [ex] at h
  obtain ⟨q, e1, h⟩ := bindS h
  refine ⟨hlk, S, F, ρ, q, en, e1, fun J H1 F1 g1 wk => ?_⟩
  generalize hf : (fun (ρ' : En) x => (bind p (.sh, x) ρ').bind (exs cl fuel b)) = f at h
  have id' : ∀ i, i ∈ slots p ++ asgSs b → i ∈ slots p ++ asgSs b := fun _ h => h
  have iL : ∀ i, i ∈ slots p → i ∈ slots p ++ asgSs b := fun _ h => List.mem_append_left _ h
  have iR : ∀ i, i ∈ asgSs b → i ∈ slots p ++ asgSs b := fun _ h => List.mem_append_right _ h
  have no : ∀ i, i ∈ ([] : List Nat) → i ∈ slots p ++ asgSs b := fun _ h => by cases h
  have gs : GoS X.K S F σ H (slots p ++ asgSs b) F1 σ q.2 H1 := .of g1
  refine ⟨fun i m σi Hi => m = q.1.length - i ∧ i ≤ q.1.length ∧ ∃ Fi ρi, GoS X.K S F1 σ H1 (slots p ++ asgSs b) Fi σi ρi Hi ∧ forL f (q.1.drop i) ρi = some o, ⟨q.1.length, by simp, Nat.zero_le _, F1, q.2, .refl g1.env, by simpa using h⟩, ?_⟩
  rintro i m σi Hi ⟨rfl, hi, Fi, ρi, gi, h1⟩
  have kp : ∀ b o, H1 b = some o → ¬ Wt S F1 b → Hi b = some o := fun b o e n => gi.fr.keep b o e fun i z => n (.inr ⟨i, z⟩)
  by_cases hlt : i < q.1.length
  · refine .inr ⟨wk.goes i Hi hlt kp, fun σ' H' => ∃ Fi ρi, GoS X.K S F1 σ H1 (slots p ++ asgSs b) Fi σ' ρi H' ∧ forL f (q.1.drop (i + 1)) ρi = some o, fun σ' H' p' => ⟨q.1.length - (i + 1), by omega, rfl, hlt, p'⟩, fun x H' y => ?_⟩
    obtain ⟨d, hd, sm, rr⟩ := wk.yields i Hi x H' hlt kp y
    have rx := rr (Wt S Fi) (fun a z => by
      rcases z with z | ⟨j, z⟩
      · exact .inl (.inl z)
      · rcases gi.fr.new j a z with ⟨j', q⟩ | q
        · exact .inl (.inr ⟨j', q⟩)
        · exact .inr q) fun a z => (gi.env.wt a z).ne
    have hdrop : q.1.drop i = d :: q.1.drop (i + 1) := by
      rw [List.drop_eq_getElem_cons hlt]
      rw [List.getElem?_eq_getElem hlt] at hd
      cases hd
      rfl
    rw [hdrop] at h1
    simp only [forL] at h1
    cases e2 : f ρi d with
    | none => rw [e2] at h1; cases h1
    | some o2 =>
      rw [e2] at h1
      rw [← hf] at e2
      obtain ⟨ρ2, b1, e3⟩ := bindS e2
      refine ⟨S, Fi, ρi, .sh, d, [], ρ2, (by rw [addS0]; exact gi.env.same sm), rfl, .sh (by rw [addS0]; exact rx), fun a ha => (by cases ha), b1, fun σ2 F2 pg => ?_⟩
      have g2 : GoS X.K S Fi σi Hi (slots p) F2 σ2 ρ2 H' := by
        refine ⟨pg.env, ⟨fun b o e _ => sm b o e, fun j a ha => ?_, (Fr.same (F := Fi) sm).there⟩, fun j hj => ⟨.inl (pg.out j hj).1, (pg.out j hj).2⟩⟩
        rcases pg.mem j a ha with z | z
        · cases z
        · exact .inl ⟨j, z⟩
      have g12 : GoS X.K S F1 σ H1 (slots p ++ asgSs b) F2 σ2 ρ2 H' := gi.trans g2 id' iL
      refine ⟨S, F2, ρ2, o2, pg.env, e3, ?_⟩
      cases o2 with
      | nx ρ3 => exact fun F3 σ3 H3 g3 => ⟨F3, ρ3, g12.trans g3 id' iR, h1⟩
      | ct ρ3 => exact fun F3 σ3 H3 g3 => ⟨F3, ρ3, g12.trans g3 id' iR, h1⟩
      | bk ρ3 => cases h1; exact fun F3 σ3 H3 g3 => k F3 σ3 H3 (gs.trans (g12.trans g3 id' iR) id' id')
      | rt r3 ρ3 => cases h1; exact fun v F3 σ3 H3 A g3 => k v F3 σ3 H3 A (RtS.trans gs (RtS.trans g12 g3 id' iR) id' id')
  · have e : i = q.1.length := by omega
    subst e
    rw [List.drop_length] at h1
    cases h1
    exact .inl ⟨wk.stops Hi kp, k Fi σi Hi (gs.trans gi id' id')⟩
theorem st_for (g : Gd cl N sc sc X) {fuel : Nat} {p : Pat} {it : It} {b : Ss} {tg x : Expr} {l : List Stmt} {pos : Pos} (hi : PI X tg x (tIL X.K cl it)) (hp : chkP N sc p tg = true) (hfold : ∀ y, foldedSetIterable x X.env y = pure y) (hb : PSs X l (tSt X.K (exs cl fuel b) (asgSs b))) :
    PS X (.For tg x l [] pos) (tSt X.K (ex cl fuel (.for_ p it b)) (asgS (.for_ p it b))) := lockItS (it := it) (st_for0 g hi hp hfold hb) fun ρ => rfl
end
end Mini

end
section
set_option Elab.async false
set_option linter.all false
set_option maxRecDepth 100000
set_option maxHeartbeats 4000000
/-! Mini, part 19: stores. -/
namespace Mini
open PySem PySem.Spec PyProof.Rows L2
/-- which names a parallel store exchanges (none of the outer: not told) -/
def swN (sc : Scope) (ts vs : List Expr) : Option (Option (List Str)) :=
  if (!(ts.length == 2 || ts.length == 3) || vs.length != ts.length) = true then some none
  else if (vs.any fun | .Starred .. => true | _ => false) = true then some none
  else
    let line := (ts.head?.map (·.pos.line)).getD 0
    let names := ts.filterMap fun
      | .Name id pos => if (sc.names.lookup id == some .local && pos.line == line) = true then some id else none
      | _ => none
    if (names.length != ts.length || names.eraseDups.length != names.length) = true then some none
    else if vs.all (foldedForSure 8) = true then some none
    else if vs.all (constantsAlone 8) = true then none
    else some (some names)
theorem swN_ok {sc : Scope} {ts vs : List Expr} {r : Option (List Str)} {env : Env} {k k2 : Nat} {p p2 : Pos} (h : swN sc ts vs = some r) (hs : env.scope = sc) (hk : sc.kind = .function) : swappedStores [.Tuple ts k p] (.Tuple vs k2 p2) env = pure r := by
  have hb : env.blockKind = .function := by unfold Env.blockKind; rw [hs, hk]; rfl
  have kd : ∀ id, env.kindOf id = sc.names.lookup id := fun id => by unfold Env.kindOf; rw [hs]
  subst hs
  unfold swN at h
  unfold swappedStores
  rw [hb]
  have hno : (ScopeKind.function != ScopeKind.function) = false := rfl
  split at h
  · rename_i c
    cases h
    show (if (!(ts.length == 2 || ts.length == 3) || vs.length != ts.length || _) = true then pure none else _) = _
    rw [if_pos (by rw [c]; rfl)]
  · rename_i c
    show (if (!(ts.length == 2 || ts.length == 3) || vs.length != ts.length || _) = true then pure none else _) = _
    rw [if_neg (by rw [hno, Bool.or_false]; exact c)]
    split at h
    · rename_i c2
      cases h
      exact if_pos c2
    · rename_i c2
      refine (if_neg c2).trans ?_
      simp only at h
      split at h
      · rename_i c3
        cases h
        exact if_pos c3
      · rename_i c3
        refine (if_neg c3).trans ?_
        split at h
        · rename_i c4
          cases h
          exact if_pos c4
        · rename_i c4
          refine (if_neg c4).trans ?_
          split at h
          · cases h
          · rename_i c5
            cases h
            exact if_neg c5

/-! ### values held, then stored -/
structure Hv where
  sl : Sl
  v : V
  A : List Addr
def addAll (S : Addr → Prop) : List Hv → Addr → Prop
  | [] => S
  | x :: rs => addS (addAll S rs) x.A
def ApAll (S : Addr → Prop) : List Hv → Prop
  | [] => True
  | x :: rs => (∀ a ∈ x.A, ¬ addAll S rs a) ∧ ApAll S rs
theorem addAll_mem {S : Addr → Prop} : ∀ {rs : List Hv} {x : Hv} {a : Addr}, x ∈ rs → a ∈ x.A → addAll S rs a
  | y :: rs, x, a, h, ha => by
    rcases List.mem_cons.mp h with e | h
    · subst e; exact .inr ha
    · exact .inl (addAll_mem h ha)
structure Held (K : PySem.W.Frag) (S : Addr → Prop) (F : Fs) (σ : L2.St) (H : Hp) (as : List Nat) (rs : List Hv) (F' : Fs) (σ' : L2.St) (ρ' : En) (H' : Hp) : Prop where
  env : EnvOk K (addAll S rs) F' ρ' σ' H'
  reps : ∀ x ∈ rs, okFl x.sl.1 = true ∧ SlotRep K (Wt (addAll S rs) F') H' x.sl.1 x.v x.sl.2 x.A
  ap : ApAll S rs
  fr : Fr F H F' H'
  sub : ∀ i, i ∉ as → (F' i = F i ∨ F' i = []) ∧ σ'[i]? = σ[i]?
  new : ∀ x ∈ rs, ∀ a ∈ x.A, (∃ j, a ∈ F j) ∨ H a = none
section
variable {K : PySem.W.Frag} {S : Addr → Prop} {F F1 F2 : Fs} {σ σ1 : L2.St} {H H1 H2 : Hp} {ρ ρ1 : En} {as bs : List Nat} {rs : List Hv}
theorem Held.start (e : EnvOk K S F ρ σ H) : Held K S F σ H as [] F σ ρ H := ⟨e, fun x h => (by cases h), trivial, Fr.refl F H, fun _ _ => ⟨.inl rfl, rfl⟩, fun x h => (by cases h)⟩
theorem Held.end (h : Held K S F σ H as [] F1 σ1 ρ1 H1) : GoS K S F σ H as F1 σ1 ρ1 H1 := ⟨h.env, h.fr, h.sub⟩
theorem Held.ev {r : Sl × En} {v : V} {A : List Addr} (h : Held K S F σ H as rs F1 σ1 ρ1 H1) (p : PostE K (addAll S rs) F1 σ1 H1 r v H2 F2 A) (ok : okFl r.1.1 = true) : Held K S F σ H as (⟨r.1, v, A⟩ :: rs) F2 σ1 r.2 H2 := by
  refine ⟨p.env, fun x hx => ?_, ⟨p.apart, h.ap⟩, h.fr.trans p.fr, fun i hi => sub_trans (h.sub i hi) ⟨p.sub i, rfl⟩, fun x hx a ha => ?_⟩
  · rcases List.mem_cons.mp hx with e | hx
    · subst e
      refine ⟨ok, ?_⟩
      obtain ⟨⟨fl, d⟩, ρ'⟩ := r
      cases p.res with
      | slot _ q => exact q
      | bo _ _ => cases ok
    · obtain ⟨k1, k2⟩ := h.reps x hx
      refine ⟨k1, k2.step (fun b o e n => p.fr.keep b o e fun i z => n (.inr ⟨i, z⟩)) (fun a z => ?_) (fun a ha => ?_) h.env.wt⟩
      · rcases z with (z | z) | ⟨i, z⟩
        · exact .inl (.inl z)
        · rcases p.new a z with ⟨j, q⟩ | q
          · exact .inl (.inr ⟨j, q⟩)
          · exact .inr q
        · rcases p.sub i with e | e
          · rw [e] at z; exact .inl (.inr ⟨i, z⟩)
          · rw [e] at z; cases z
      · rcases k2.mus a ha with ⟨ys, q⟩ | ⟨ys, q⟩ <;> (rw [q]; exact p.fr.keep a _ q fun i z => h.env.ext i a z (addAll_mem hx ha))
  · rcases List.mem_cons.mp hx with e | hx
    · subst e
      rcases p.new a ha with ⟨j, q⟩ | q
      · exact h.fr.new j a q
      · cases e : H a with
        | none => exact .inr rfl
        | some o => exact absurd q (h.fr.there a (by rw [e]; exact Option.some_ne_none _))
    · exact h.new x hx a ha
theorem Held.put {x : Hv} {i : Nat} (h : Held K S F σ H as (x :: rs) F1 σ1 ρ1 H1) (hi : i < ρ1.length) (ia : i ∈ as) : Held K S F σ H as rs (setF F1 i x.A) (σ1.set i (some x.v)) (ρ1.set i (some x.sl)) H1 := by
  obtain ⟨k1, k2⟩ := h.reps x (List.mem_cons_self ..)
  refine ⟨EnvOk.set h.env k2 hi h.ap.1, fun y hy => ?_, h.ap.2, ⟨h.fr.keep, fun j a ha => ?_, h.fr.there⟩, fun j hj => ?_, fun y hy => h.new y (List.mem_cons_of_mem _ hy)⟩
  · obtain ⟨k3, k4⟩ := h.reps y (List.mem_cons_of_mem _ hy)
    refine ⟨k3, k4.mono (fun a z => ?_) h.env.wt⟩
    rcases z with z | ⟨j, z⟩
    · exact .inl (.inl z)
    · by_cases hj : j = i
      · subst hj; rw [setF_same] at z; exact .inl (.inr z)
      · rw [setF_ne hj] at z; exact .inr ⟨j, z⟩
  · by_cases hj : j = i
    · subst hj; rw [setF_same] at ha; exact h.new x (List.mem_cons_self ..) a ha
    · rw [setF_ne hj] at ha; exact h.fr.new j a ha
  · have hji : j ≠ i := fun e => hj (by rw [e]; exact ia)
    rw [setF_ne hji, List.getElem?_set_ne (Ne.symm hji)]
    exact h.sub j hj
end
section
variable {X : Cx} {cl : CallS} {N : List Str} {sc : Scope}
theorem nm_bind {i : Nat} {sl : Sl} {ρ ρ' : En} (h : bind (.nm i) sl ρ = some ρ') : okFl sl.1 = true ∧ i < ρ.length ∧ ρ' = ρ.set i (some sl) := by
  obtain ⟨fl, d⟩ := sl
  simp only [bind] at h
  obtain ⟨c, h⟩ := iteS h
  cases h
  obtain ⟨a, b⟩ := and2 c
  exact ⟨a, of_decide_eq_true b, rfl⟩
theorem g_nm_w {i : Nat} : ∀ v σ H Q, tG X.K (.nm i) v σ H Q → gName i v σ H Q := fun v σ H Q ⟨S, F, ρ, fl, d, A, ρ', e, ok, r, ap, b, k⟩ => by
  obtain ⟨_, hi, rfl⟩ := nm_bind b
  refine k _ _ ⟨e.set r hi ap, fun j hj => ?_, fun j a ha => ?_, by simp⟩
  · have hj : j ≠ i := by simpa [slots] using hj
    exact ⟨setF_ne hj, List.getElem?_set_ne (Ne.symm hj)⟩
  · by_cases hj : j = i
    · subst hj; rw [setF_same] at ha; exact .inl ha
    · rw [setF_ne hj] at ha; exact .inr ha
theorem bind_ok {p : Pat} {sl : Sl} {ρ ρ' : En} (h : bind p sl ρ = some ρ') : okFl sl.1 = true := by
  cases p with
  | nm i => exact (nm_bind h).1
  | tp ps =>
    obtain ⟨fl, d⟩ := sl
    cases fl with
    | sh => rfl
    | _ => cases d <;> cases h
theorem asg_w {fuel : Nat} {p : Pat} {e : E} {te : TE} {g : TG} (ht : ∀ σ H Q, tD X.K (ev cl e) σ H Q → te σ H Q) (hg : ∀ v σ H Q, tG X.K p v σ H Q → g v σ H Q) : ∀ D σ H, tSt X.K (ex cl fuel (.asg p e)) (slots p) D σ H → tAsg te g D σ H := by
  rintro D σ H ⟨S, F, ρ, o, en, h, k⟩
  simp only [ex] at h
  obtain ⟨r, e1, h⟩ := bindS h
  obtain ⟨ρ', b, rfl⟩ := mapS h
  refine ht _ _ _ ⟨S, F, ρ, r, en, e1, fun v H1 F1 A p1 => hg _ _ _ _ ⟨S, F1, r.2, r.1.1, r.1.2, A, ρ', p1.env, bind_ok b, ?_, p1.apart, b, fun σ' F' pg => k F' σ' H1 ⟨pg.env, ⟨p1.fr.keep, fun i a ha => ?_, p1.fr.there⟩, fun i hi => ?_⟩⟩⟩
  · have ok := bind_ok b
    obtain ⟨⟨fl, d⟩, ρ2⟩ := r
    cases p1.res with
    | slot _ q => exact q
    | bo _ _ => cases ok
  · rcases pg.mem i a ha with z | z
    · exact p1.new a z
    · exact p1.fr.new i a z
  · obtain ⟨a1, a2⟩ := pg.out i hi
    rw [a1, a2]
    exact ⟨p1.sub i, rfl⟩
theorem par2_w {fuel : Nat} {i j : Nat} {a b : E} (hij : i ≠ j) : ∀ D σ H, tSt X.K (ex cl fuel (.par (.cons (.nm i) (.cons (.nm j) .nil)) (.cons a (.cons b .nil)))) [i, j] D σ H → tPar i j (tCons (tD X.K (ev cl a)) (tCons (tD X.K (ev cl b)) tNil)) D σ H := by
  rintro D σ H ⟨S, F, ρ, o, en, h, k⟩
  simp only [ex, evP] at h
  obtain ⟨r, e1, h⟩ := bindS h
  obtain ⟨ρ', e2, rfl⟩ := mapS h
  obtain ⟨p1, e3, e1⟩ := bindS e1
  obtain ⟨c1, e1⟩ := iteS e1
  obtain ⟨q1, e4, rfl⟩ := mapS e1
  obtain ⟨p2, e5, e4⟩ := bindS e4
  obtain ⟨c2, e4⟩ := iteS e4
  cases e4
  simp only [bindP] at e2
  obtain ⟨ρ1, b1, e2⟩ := bindS e2
  obtain ⟨ρ2, b2, e2⟩ := bindS e2
  cases e2
  obtain ⟨_, l1, rfl⟩ := nm_bind b1
  obtain ⟨_, l2, rfl⟩ := nm_bind b2
  refine ⟨S, F, ρ, p1, en, e3, fun v H1 F1 A1 q1 => ⟨_, F1, p1.2, p2, q1.env, e5, fun w H2 F2 A2 q2 => ⟨v, w, rfl, ?_⟩⟩⟩
  have h0 := Held.start (as := [i, j]) en
  have h1 := h0.ev q1 c1
  have h2 := h1.ev q2 c2
  have h3 := h2.put (i := j) (by simpa using l2) (by simp)
  have h4 := h3.put (i := i) (by simpa using l1) (by simp)
  have h5 := h4.end
  rw [List.set_comm _ _ (Ne.symm hij), List.set_comm _ _ (Ne.symm hij)] at h5
  exact k _ _ _ h5
theorem par3_w {fuel : Nat} {i j l : Nat} {a b c : E} (hij : i ≠ j) (hil : i ≠ l) (hjl : j ≠ l) : ∀ D σ H, tSt X.K (ex cl fuel (.par (.cons (.nm i) (.cons (.nm j) (.cons (.nm l) .nil))) (.cons a (.cons b (.cons c .nil))))) [i, j, l] D σ H →
    tPar3 i j l (tCons (tD X.K (ev cl a)) (tCons (tD X.K (ev cl b)) (tCons (tD X.K (ev cl c)) tNil))) D σ H := by
  rintro D σ H ⟨S, F, ρ, o, en, h, k⟩
  simp only [ex, evP] at h
  obtain ⟨r, e1, h⟩ := bindS h
  obtain ⟨ρ', e2, rfl⟩ := mapS h
  obtain ⟨p1, e3, e1⟩ := bindS e1
  obtain ⟨c1, e1⟩ := iteS e1
  obtain ⟨q1, e4, rfl⟩ := mapS e1
  obtain ⟨p2, e5, e4⟩ := bindS e4
  obtain ⟨c2, e4⟩ := iteS e4
  obtain ⟨q2, e6, rfl⟩ := mapS e4
  obtain ⟨p3, e7, e6⟩ := bindS e6
  obtain ⟨c3, e6⟩ := iteS e6
  cases e6
  simp only [bindP] at e2
  obtain ⟨ρ1, b1, e2⟩ := bindS e2
  obtain ⟨ρ2, b2, e2⟩ := bindS e2
  obtain ⟨ρ3, b3, e2⟩ := bindS e2
  cases e2
  obtain ⟨_, l1, rfl⟩ := nm_bind b1
  obtain ⟨_, l2, rfl⟩ := nm_bind b2
  obtain ⟨_, l3, rfl⟩ := nm_bind b3
  refine ⟨S, F, ρ, p1, en, e3, fun v H1 F1 A1 q1 => ⟨_, F1, p1.2, p2, q1.env, e5, fun w H2 F2 A2 q2 => ⟨_, F2, p2.2, p3, q2.env, e7, fun u H3 F3 A3 q3 => ⟨v, w, u, rfl, ?_⟩⟩⟩⟩
  have h0 := Held.start (as := [i, j, l]) en
  have h1 := h0.ev q1 c1
  have h2 := h1.ev q2 c2
  have h2' := h2.ev q3 c3
  have h3 := h2'.put (i := l) (by simpa using l3) (by simp)
  have h4 := h3.put (i := j) (by simpa using l2) (by simp)
  have h5 := (h4.put (i := i) (by simpa using l1) (by simp)).end
  have com : ∀ {α : Type} (xs : List (Option α)) (x y z : Option α), ((xs.set l z).set j y).set i x = ((xs.set i x).set j y).set l z := fun xs x y z => by
    rw [List.set_comm _ _ (Ne.symm hjl), List.set_comm _ _ (Ne.symm hil), List.set_comm _ _ (Ne.symm hij)]
  rw [com, com] at h5
  exact k _ _ _ h5

/-! ### name = comprehension, on one line -/
def swC (sc : Scope) (t : Str) (tp vp : Pos) (scope : Scope) : Bool := (sc.names.lookup t == some .local) && (tp.line == vp.line) && !(scope.names.any fun (n, k) => n == t && (k == .local || k == .cell))
def compScope : Expr → Option (Scope × Pos)
  | .ListComp _ _ s p | .SetComp _ _ s p | .DictComp _ _ _ s p => some (s, p)
  | _ => none
theorem sw_name {e : Expr} {t : Str} {tp : Pos} {l : Nat} {env : Env} (hs : env.scope = sc) (hk : sc.kind = .function) : swapsWith e (some (.Name t tp)) l env = pure (match compScope e with
    | some (s, p) => swC sc t tp p s
    | none => false) := by
  have hb : env.blockKind = .function := by unfold Env.blockKind; rw [hs, hk]; rfl
  subst hs
  cases e <;> first | rfl | skip
  all_goals
    unfold swapsWith
    simp only [hb, compScope, swC, Env.kindOf, Expr.pos]
    rfl
theorem sw_tup {e : Expr} {ts : List Expr} {k : Nat} {p : Pos} {l : Nat} {env : Env} : swapsWithSole [.Tuple ts k p] e l env = pure false := by
  cases e <;> rfl
theorem sw_none {e : Expr} {l : Nat} {env : Env} (h : compScope e = none) : swapsWith e none l env = pure false := by
  cases e <;> first | rfl | cases h
theorem sw_sub {e o i : Expr} {p : Pos} {l : Nat} {env : Env} : swapsWith e (some (.Subscript o i p)) l env = pure false := by
  cases e <;> rfl
end
end Mini

end
section
set_option Elab.async false
set_option linter.all false
set_option maxRecDepth 100000
set_option maxHeartbeats 4000000
/-! Mini, part 19s: the draws' record changed. -/
namespace Mini
open PySem PySem.Spec PyProof.Rows L2
section
variable {X : Cx} {cl : CallS} {N : List Str} {sc : Scope}
theorem st_setf (g : Gd cl N sc sc X) {fuel : Nat} {i : Nat} {k : Str} {e : E} {o v : Expr} {kk : Nat} {kp sp pos : Pos} (ho : chkNm N sc i o = true) (hv : chkE N sc e v = true) :
    PS X (.Assign [.Subscript o (.Constant (.str k) kk kp) sp] v pos) (tSt X.K (ex cl fuel (.setf i k e)) []) :=
  ps_w (ps_dput (by have := g.room; omega) (pe_nm g ho) pe_str (pe_k (snd_E e g hv).1) sw_sub) fun D σ H ⟨S, F, ρ, out, en, h, q⟩ => by
    simp only [ex] at h
    obtain ⟨r, e1, h⟩ := bindS h
    split at h
    · rename_i w d hw hr
      obtain ⟨d', hd, rfl⟩ := mapS h
      refine ⟨S, F, ρ, r, en, e1, fun u H1 F1 p1 => ?_⟩
      obtain ⟨vo, hvo, sr⟩ := p1.go.env.slot i _ _ hr
      obtain ⟨a, c, ns, l, m, t, rfl, rfl, ha, hc, hac, hA⟩ := sr.rcd (putF_rec hd)
      obtain ⟨l', m', t', rfl, hput⟩ := putF_src (c := c) hd
      have hu : u = .int w := by
        have := p1.rep
        rw [hw] at this
        exact this
      refine ⟨_, hvo, a, _, rfl, by rw [hu]; exact DPut.k (k := .inr k) ha (by show (srcKvs c l m t).length < sizeLine; simp [srcKvs]; decide), ?_⟩
      rw [hput]
      have ma : a ∈ F1 i := by rw [hA]; exact List.mem_cons_self ..
      have e2 : EnvOk X.K S F1 (r.2.set i (some (.src, srcD ns l' m' t'))) σ (upd H1 a (.dK (srcKvs c l' m' t'))) := by
        refine p1.go.env.put (rd_lt hr) ma hvo (.inr ⟨_, upd_same⟩) ?_
        rw [hA]
        exact .src upd_same (by rw [upd_ne (Ne.symm hac)]; exact hc) hac
      exact q F1 σ _ (.of ⟨e2, p1.go.fr.trans (Fr.put ma), p1.go.sub⟩)
    · cases h
theorem EnvOk.sig {K : PySem.W.Frag} {S : Addr → Prop} {F : Fs} {ρ : En} {σ : L2.St} {H : Hp} (e : EnvOk K S F ρ σ H) {j : Nat} {x : Option V} (h : rd ρ j = none) : EnvOk K S F ρ (σ.set j x) H := by
  refine ⟨by simp [e.len], fun i fl d q => ?_, e.emp, e.dis, e.ext, e.wf⟩
  have hij : i ≠ j := fun z => by rw [z, h] at q; cases q
  rw [List.getElem?_set_ne (Ne.symm hij)]
  exact e.slot i fl d q
theorem rd_self {ρ : En} {i : Nat} {s : Sl} (h : rd ρ i = some s) : ρ.set i (some s) = ρ := by
  have hi := rd_lt h
  unfold rd at h
  rw [List.getElem?_eq_getElem hi] at h
  have h' : ρ[i] = some s := h
  rw [← h']
  exact List.set_getElem_self hi
/-- cells = source['cells'] ; while source['left'] < 2 and len(cells) > 0: source['left'] = cells.pop() -/
theorem st_pull (g : Gd cl N sc sc X) (hk : sc.kind = .function) {fuel : Nat} {i j : Nat} {r : Ss} {y : Str} {n1 n2 n3 n4 n5 ln : Expr} {py q1 q2 q3 q4 q5 q6 q7 q8 q9 qa qb qc qd qe qf qi qj : Pos} {j1 j2 j3 j4 j5 : Nat} {rest : List Stmt}
    (hy : N[j]? = some y) (hst : isSto sc y = true) (h1 : chkNm N sc i n1 = true) (h2 : chkNm N sc i n2 = true) (h3 : chkNm N sc j n3 = true) (h4 : chkNm N sc i n4 = true) (h5 : chkNm N sc j n5 = true) (hl : chkGl sc "len" ln = true) (hline : (qi.endLine == qj.line) = true)
    (hr : PSs X rest (tSt X.K (exs cl fuel r) (asgSs r))) :
    PSs X (.Assign [.Name y py] (.Subscript n1 (.Constant (.str "cells") j1 q1) q2) q3 :: .While (.BoolOp .And [.Compare (.Subscript n2 (.Constant (.str "left") j2 q4) q5) [.Lt] [.Constant (.int 2) j3 q6] q7, .Compare (.Call ln [n3] [] q8) [.Gt] [.Constant (.int 0) j4 q9] qa] qb)
      [.Assign [.Subscript n4 (.Constant (.str "left") j5 qc) qd] (.Call (.Attribute n5 "pop" qi) [] [] qj) qe] [] qf :: rest) (tSt X.K (exs cl fuel (.pull i j r)) (asgSs (.pull i j r))) := by
  obtain ⟨hloc, hf⟩ := (show L2.Loc X.env.scope y ∧ (X.fn y = true ∨ X.env.scope.names.lookup y = some .local) from by rw [g.es]; exact g.isSto hst)
  obtain ⟨pl, rfl, g1, g2⟩ := chkGl_ok hl
  obtain ⟨d1, d2, d3⟩ := notDun_ok g2
  have hs3 : ∀ xs env, starEach (n3 :: xs) env = (false, eval n3 env) :: starEach xs env := fun xs env => by
    unfold chkNm at h3
    split at h3
    · rfl
    · cases h3
  have hu : X.A.units + 1 < cLine := by have := g.room; omega
  refine pss_w (pss_cons (ps_set (by rw [g.eN]; exact g.nd) (by rw [g.eN]; exact hy) hloc (pe_ix ix_dict (pe_nm g h1) pe_str fun _ _ => rfl) rfl hf)
    (pss_cons (ps_while (by rw [g.xe]; exact PassesOwn.never)
      (pw_and (pt_cmp (pc_lt (pe_ix ix_dict (pe_nm g h2) pe_str fun _ _ => rfl) pe_int) rfl) (pw_and1 (pt_cmp (pc_gt (pe_call1 (.inl ⟨_, rfl⟩) call_len (g.gl g1) (g.free _ (by simp [freeN])) boot_len (pa_cons (pe_nm g h3) pa_nil (hs3 _ _)) d3 d1 (hs3 _ _) rfl) pe_int) rfl))).pt
      (pss_one (ps_dput hu (pe_nm g h4) pe_str (pe_bm0 PySem.F.plainAttrs_list PySem.F.slot_list_pop PySem.F.type_list_pop mt_pop (pe_nm g h5) (attrNm h5 _ _) hline) sw_sub))) hr)) fun D σ H ⟨S, F, ρ, o, en, h, k⟩ => ?_
  simp only [exs] at h
  split at h
  · rename_i d hri hrj
    obtain ⟨cc, h⟩ := iteS h
    obtain ⟨c1, c2⟩ := and2 cc
    have hij := of_decide_eq_true c1
    have hjl := of_decide_eq_true c2
    obtain ⟨d', hd', hrun⟩ := bindS h
    obtain ⟨vo, hvo, sr⟩ := en.slot i _ _ hri
    have hnl : ∀ ds, d ≠ .list ds := fun ds z => by subst z; cases hd'
    obtain ⟨a, c, ns, l, m, t, rfl, rfl, ha, hc, hac, hA⟩ := sr.rcd hnl
    have hd2 : d' = srcD (pullI ns.reverse l).1.reverse (pullI ns.reverse l).2 m t := by
      have z : ((allI (ns.map PyData.int)).map fun ns => srcD (pullI ns.reverse l).1.reverse (pullI ns.reverse l).2 m t) = some d' := hd'
      rw [allI_map] at z
      exact (Option.some.inj z).symm
    have ma : a ∈ F i := by rw [hA]; simp
    have mc : c ∈ F i := by rw [hA]; simp
    refine ⟨_, hvo, a, .ref c, rfl, DGet.k (k := .inr "cells") ha, hu, ?_⟩
    generalize hσ1 : σ.set j (some (V.ref c)) = σ1
    have s1 : σ1[i]? = some (some (V.ref a)) := by rw [← hσ1, List.getElem?_set_ne (Ne.symm hij)]; exact hvo
    have s2 : σ1[j]? = some (some (V.ref c)) := by rw [← hσ1, List.getElem?_set_self (by rw [← en.len]; exact hjl)]
    have so : ∀ i', i' ≠ j → σ1[i']? = σ[i']? := fun i' z => by rw [← hσ1, List.getElem?_set_ne (Ne.symm z)]
    have e1 : EnvOk X.K S F (ρ.set i (some (.src, srcD ns l m t))) σ1 H := by
      rw [rd_self hri, ← hσ1]
      exact en.sig hrj
    show tWhile _ _ _ (σ.set j (some (V.ref c))) H
    rw [hσ1]
    refine ⟨fun m' σ' H' => σ' = σ1 ∧ ∃ ns' l', EnvOk X.K S F (ρ.set i (some (.src, srcD ns' l' m t))) σ1 H' ∧ Fr F H F H' ∧ H' a = some (.dK (srcKvs c l' m t)) ∧ H' c = some (.lst (ns'.map .int)) ∧ m' = ns'.length ∧ pullI ns'.reverse l' = pullI ns.reverse l, ⟨ns.length, rfl, ns, l, e1, Fr.refl F H, ha, hc, rfl, rfl⟩, ?_⟩
    rintro m' σ' H' ⟨rfl, ns', l', e2, f2, ha', hc', rfl, hp⟩
    have fin : ∀ (hq : pullI ns'.reverse l' = (ns'.reverse, l')), tSt X.K (exs cl fuel r) (asgSs r) D σ' H' := fun hq => by
      have hd3 : d' = srcD ns' l' m t := by
        rw [hd2, ← hp, hq, List.reverse_reverse]
      rw [hd3] at hrun
      refine ⟨S, F, _, o, e2, hrun, k.later (as := [j]) ⟨e2, f2, fun i' hi => ⟨.inl rfl, so i' (by simpa using hi)⟩⟩ (fun i' hi => ?_) fun i' hi => List.mem_cons_of_mem _ hi⟩
      rw [List.mem_singleton.mp hi]
      exact List.mem_cons_self ..
    refine ⟨_, s1, a, .int l', rfl, DGet.k (k := .inr "left") ha', hu, l', 2, rfl, rfl, ⟨_, rfl, ?_⟩⟩
    show (if decide (l' < 2) = true then _ else _)
    by_cases hl2 : l' < 2
    · rw [if_pos (decide_eq_true hl2)]
      refine ⟨_, s2, ⟨V.ref c, (ns'.map V.int).length, rfl, .inl ⟨_, SqL.of hc', rfl⟩, ((ns'.map V.int).length : Nat), 0, rfl, rfl, ⟨_, rfl, ?_⟩⟩⟩
      show (if decide ((0 : Int) < (((ns'.map V.int).length : Nat) : Int)) = true then _ else _)
      rcases List.eq_nil_or_concat ns' with rfl | ⟨init, n, rfl⟩
      · rw [if_neg (by simp)]
        exact fin rfl
      · rw [if_pos (by simp)]
        rw [List.concat_eq_append] at *
        refine ⟨fun σ'' H'' => σ'' = σ' ∧ ∃ ns'' l'', EnvOk X.K S F (ρ.set i (some (.src, srcD ns'' l'' m t))) σ' H'' ∧ Fr F H F H'' ∧ H'' a = some (.dK (srcKvs c l'' m t)) ∧ H'' c = some (.lst (ns''.map .int)) ∧ ns''.length = init.length ∧ pullI ns''.reverse l'' = pullI ns.reverse l, fun σ'' H'' ⟨z, ns'', l'', z1, z2, z3, z4, z5, z6⟩ => ⟨ns''.length, by rw [z5]; simp, z, ns'', l'', z1, z2, z3, z4, rfl, z6⟩, ?_⟩
        refine ⟨_, s2, .inl ⟨rfl, _, SqL.of hc'⟩, c, _, .int n, rfl, rfl, hc', by simp, ?_⟩
        have ha3 : upd H' c (.lst ((init ++ [n]).map V.int).dropLast) a = some (.dK (srcKvs c l' m t)) := by rw [upd_ne hac]; exact ha'
        refine ⟨_, s1, a, _, rfl, DPut.k (k := .inr "left") ha3 (by show (srcKvs c l' m t).length < sizeLine; simp [srcKvs]; decide), rfl, init, n, ?_, ?_, ?_, ?_, rfl, ?_⟩
        · have hdl : ((init ++ [n]).map V.int).dropLast = init.map V.int := by simp
          rw [hdl]
          have k1 : EnvOk X.K S F ((ρ.set i (some (.src, srcD (init ++ [n]) l' m t))).set i (some (.src, srcD init l' m t))) σ' (upd H' c (.lst (init.map V.int))) := by
            refine e2.put (by rw [List.length_set]; exact rd_lt hri) mc s1 (.inl ⟨_, upd_same⟩) ?_
            rw [hA]
            exact .src (by rw [upd_ne hac]; exact ha') upd_same hac
          have k2 := k1.put (i := i) (a := a) (o := .dK (srcKvs c n m t)) (fl := .src) (d := srcD init n m t) (v := .ref a) (by rw [List.length_set, List.length_set]; exact rd_lt hri) ma s1 (.inr ⟨_, upd_same⟩) (by
            rw [hA]
            exact .src upd_same (by rw [upd_ne (Ne.symm hac)]; exact upd_same) hac)
          rw [List.set_set, List.set_set] at k2
          exact k2
        · exact (f2.trans (Fr.put mc)).trans (Fr.put ma)
        · exact upd_same
        · rw [upd_ne (Ne.symm hac), upd_same]
          simp
        · rw [← hp]
          simp [pullI, hl2]
    · rw [if_neg (show ¬ (decide (l' < 2) = true) from fun z => hl2 (of_decide_eq_true z))]
      refine fin ?_
      cases hns : ns'.reverse with
      | nil => rfl
      | cons n r => simp [pullI, hl2]
  · cases h
end
end Mini

end
section
set_option Elab.async false
set_option linter.all false
set_option maxRecDepth 100000
set_option maxHeartbeats 4000000
/-! Mini, part 20: the rules of stores; every checked statement does what its meaning tells. -/
namespace Mini
open PySem PySem.Spec PyProof.Rows L2
section
variable {X : Cx}
/-- name = {k: v for ..} on one line, the name a local -/
theorem ps_setDc {i : Nat} {y : Str} {py : Pos} {kx vx tg iter : Expr} {ifs : List Expr} {scope : Scope} {own : List (Str × Nat)} {pos spos : Pos} {wi : TI} {g : TG} {tt : TT} {tk tv : TE} (hc : X.calm = true) (hN : X.N.Nodup) (hy : X.N[i]? = some y)
    (hyl : X.env.scope.names.lookup y = some .local) (hsw : swapsWith (.DictComp kx vx [⟨tg, iter, ifs, 0⟩] scope pos) (some (.Name y py)) spos.line X.env = pure true) (hi : PI X tg iter wi) (ok : BlkOk X.N X.env.scope scope own)
    (hg : ∀ (s : Shared) (H : Hp) (C : Addr) (cs : List (Str × Addr)) (fp : List Addr), PG (X.blk s H scope (compEnvC scope cs C X.env) fp) tg g) (ht : ∀ (s : Shared) (H : Hp) (C : Addr) (cs : List (Str × Addr)) (fp : List Addr), PTs (X.blk s H scope (compEnvC scope cs C X.env) fp) ifs tt)
    (hk : ∀ (s : Shared) (H : Hp) (C : Addr) (cs : List (Str × Addr)) (fp : List Addr), PE (X.blk s H scope (compEnvC scope cs C X.env) fp) kx tk) (hv : ∀ (s : Shared) (H : Hp) (C : Addr) (cs : List (Str × Addr)) (fp : List Addr), PE (X.blk s H scope (compEnvC scope cs C X.env) fp) vx tv)
    (hs : ∀ x, foldedSetIterable iter X.env x = pure x) : PS X (.Assign [.Name y py] (.DictComp kx vx [⟨tg, iter, ifs, 0⟩] scope pos) spos) (tAsg (tDc wi g tt tk tv (own.map (·.2))) (gName i)) := by
  refine ⟨fun pins s σ H D I h => ?_⟩
  rw [exec_Assign_Name_used _ _ _ _ hsw]
  refine wpAny_bind (wpAny_standAt (wpAny_bind ?_))
  show wpAny _ X.A (comprehension (.DictComp kx vx [⟨tg, iter, ifs, 0⟩] scope pos) scope X.env (firstIterPos [⟨tg, iter, ifs, 0⟩] pos) newDict false (eval iter X.env) (some (assign (.Name y py) X.env)) >>= fun _ => pure ()) _ _ s
  have h' : tDc wi g tt tk tv (own.map (·.2)) σ H (fun x H1 => gName i x σ H1 D.nx) := h
  refine wpAny_bind (thn (dc_core (Qf := fun _ s' => SP X pins D .next s') hc hN I hi ok hg ht hk hv hs h' fun L C s' m H' I' q hn f => ?_) fun _ s' hq => wpAny_pure (wpAny_pure hq))
  show wpAny _ _ (assign (.Name y py) X.env (.ref L)) _ _ _
  refine wpAny_assign_Name (store_ok2 (v := V.ref L) I' hN hy (.inl hyl) rfl (fun s2 I2 ⟨a, sb, ha⟩ => ?_) (.inr hyl))
  obtain ⟨f0, f1, f2, f3, f4, f5⟩ := f
  have haC : C ≠ a := fun e => by
    rcases ha with z | z
    · exact f1 (e.trans z)
    · exact f4 y a z e.symm
  refine ⟨m, hn.sameBut sb haC, fun h3 sb3 => ⟨_, H', I2.turned (t' := s2.toks) (fun b o hb e => (sb3.2 b hb).trans e) f0 f1 f3 f4 f5, q⟩⟩
end
section
variable {X : Cx} {cl : CallS} {N : List Str} {sc : Scope}
theorem loc_st (g : Gd cl N sc sc X) {x : Str} (h : isSto sc x = true) : L2.Loc X.env.scope x ∧ (X.fn x = true ∨ X.env.scope.names.lookup x = some .local) := by
  rw [g.es]
  exact g.isSto h
/-- name = value -/
theorem st_set (g : Gd cl N sc sc X) (hk : sc.kind = .function) {fuel : Nat} {i : Nat} {e : E} {x : Str} {py : Pos} {v : Expr} {pos : Pos} (hi : N[i]? = some x) (hx : isSto sc x = true) (hv : chkE N sc e v = true) :
    PS X (.Assign [.Name x py] v pos) (tSt X.K (ex cl fuel (.asg (.nm i) e)) (asgS (.asg (.nm i) e))) := by
  obtain ⟨hl, hf⟩ := loc_st g hx
  have hN : X.N.Nodup := by rw [g.eN]; exact g.nd
  have hi' : X.N[i]? = some x := by rw [g.eN]; exact hi
  have hsw := sw_name (e := v) (t := x) (tp := py) (l := pos.line) g.es hk
  cases hc : compScope v with
  | none =>
    rw [hc] at hsw
    exact ps_w (ps_set hN hi' hl (snd_E e g hv).1 hsw hf) (asg_w (fun _ _ _ h => h) g_nm_w)
  | some sp =>
    obtain ⟨scope, vp⟩ := sp
    rw [hc] at hsw
    cases hb : swC sc x py vp scope with
    | false =>
      simp only [hb] at hsw
      exact ps_w (ps_set hN hi' hl (snd_E e g hv).1 hsw hf) (asg_w (fun _ _ _ h => h) g_nm_w)
    | true =>
      simp only [hb] at hsw
      have hloc : X.env.scope.names.lookup x = some .local := by
        unfold swC at hb
        obtain ⟨h1, _, _⟩ := and3 hb
        rw [g.es]
        exact eq_of_beq h1
      cases e with
      | comp elt p it own =>
        have h := hv
        unfold chkE at h
        split at h <;> rename_i hh <;> first | (cases hh; done) | (cases h; done) | skip
        cases hh
        obtain ⟨h, h5⟩ := and2 h
        obtain ⟨h1, h2, h3, h4⟩ := and4 h
        refine lockItS (it := it) (ps_w (ps_setLc (g := tG X.K p) (tt := tYes) (te := tK X.K fun ρ => keepS (ev cl elt ρ)) (own := ownOf N own) g.calm hN hi' hloc hsw (snd_I it g h5) (by rw [g.eN, g.es]; exact blkOk_by h1) (fun s H C cs fp => pg_ (g.blk s H _ cs C fp) p _ h3) (fun s H C cs fp => pts_nil) (fun s H C cs fp => pe_k (snd_E elt (g.blk s H _ cs C fp) h4).1) (notSet_fold (chkI_set h5) _)) (fun D σ H q => ?_)) fun ρ => Option.bind_assoc (evI cl it ρ) _ _
        rw [own_map]
        exact ⟨q.1, asg_w (comp_w (all_own h2)) g_nm_w D σ H q.2⟩
      | compIf elt p it own c =>
        have h := hv
        unfold chkE at h
        split at h <;> rename_i hh <;> first | (cases hh; done) | (cases h; done) | skip
        cases hh
        obtain ⟨h, h6⟩ := and2 h
        obtain ⟨h, h5⟩ := and2 h
        obtain ⟨h1, h2, h3, h4⟩ := and4 h
        refine lockItS (it := it) (ps_w (ps_setLc (g := tG X.K p) (tt := tT X.K (tv cl c)) (te := tK X.K fun ρ => keepS (ev cl elt ρ)) (own := ownOf N own) g.calm hN hi' hloc hsw (snd_I it g h6) (by rw [g.eN, g.es]; exact blkOk_by h1) (fun s H C cs fp => pg_ (g.blk s H _ cs C fp) p _ h3) (fun s H C cs fp => pts_one (snd_E c (g.blk s H _ cs C fp) h5).2) (fun s H C cs fp => pe_k (snd_E elt (g.blk s H _ cs C fp) h4).1) (notSet_fold (chkI_set h6) _)) (fun D σ H q => ?_)) fun ρ => Option.bind_assoc (evI cl it ρ) _ _
        rw [own_map]
        exact ⟨q.1, asg_w (compIf_w (all_own h2)) g_nm_w D σ H q.2⟩
      | dcomp k v' p it own =>
        have h := hv
        unfold chkE at h
        split at h <;> rename_i hh <;> first | (cases hh; done) | (cases h; done) | skip
        cases hh
        obtain ⟨h, h6⟩ := and2 h
        obtain ⟨h, h5⟩ := and2 h
        obtain ⟨h1, h2, h3, h4⟩ := and4 h
        refine lockItS (it := it) (ps_w (ps_setDc (g := tG X.K p) (tt := tYes) (tk := tK X.K fun ρ => keepS (ev cl k ρ)) (tv := tK X.K fun ρ => keepS (ev cl v' ρ)) (own := ownOf N own) g.calm hN hi' hloc hsw (snd_I it g h6) (by rw [g.eN, g.es]; exact blkOk_by h1) (fun s H C cs fp => pg_ (g.blk s H _ cs C fp) p _ h3) (fun s H C cs fp => pts_nil) (fun s H C cs fp => pe_k (snd_E k (g.blk s H _ cs C fp) h4).1) (fun s H C cs fp => pe_k (snd_E v' (g.blk s H _ cs C fp) h5).1) (notSet_fold (chkI_set h6) _)) (fun D σ H q => ?_)) fun ρ => Option.bind_assoc (evI cl it ρ) _ _
        rw [own_map]
        exact ⟨q.1, asg_w (dc_any (all_own h2)) g_nm_w D σ H q.2⟩
      | m1 f a b => cases f <;> cases v <;> first | (cases hc; done) | (cases hv; done)
      | _ => cases v <;> first | (cases hc; done) | (cases hv; done)
def tupOk (sc : Scope) (ts : List Expr) : Expr → Bool
  | .Tuple vs _ _ => swN sc ts vs == some none
  | _ => true
/-- (a, b, ..) = value -/
theorem st_tup (g : Gd cl N sc sc X) (hk : sc.kind = .function) {fuel : Nat} {ps : Pats} {e : E} {ts : List Expr} {k : Nat} {tp : Pos} {v : Expr} {pos : Pos} (hp : chkPs N sc ps ts = true) (hv : chkE N sc e v = true) (hw : tupOk sc ts v = true) :
    PS X (.Assign [.Tuple ts k tp] v pos) (tSt X.K (ex cl fuel (.asg (.tp ps) e)) (asgS (.asg (.tp ps) e))) := by
  have hw' : swappedStores [.Tuple ts k tp] v X.env = pure none := by
    cases v with
    | Tuple vs k2 p2 =>
      have : swN sc ts vs = some none := eq_of_beq hw
      exact swN_ok this g.es hk
    | _ => rfl
  exact ps_w (ps_asg (snd_E e g hv).1 (pg_ g (.tp ps) (.Tuple ts k tp) hp) sw_tup hw' rfl) (asg_w (fun _ _ _ h => h) fun _ _ _ _ h => h)

/-! ### xs[k] = e -/
theorem st_setx (g : Gd cl N sc sc X) {fuel : Nat} {i : Nat} {k e : E} {o x v : Expr} {sp pos : Pos} (ho : chkNm N sc i o = true) (hx : chkE N sc k x = true) (hv : chkE N sc e v = true) :
    PS X (.Assign [.Subscript o x sp] v pos) (tSt X.K (ex cl fuel (.setx i k e)) []) := by
  have hbase : ∀ w, assign (.Subscript o x sp) X.env w = (do
      let ov ← holding [w] (eval o X.env)
      let iv ← holding [w, ov] (eval x X.env)
      standAt sp
      holding [w, ov, iv] (setItem ov iv w)
      release [w, ov, iv] []) := fun w => by
    cases x <;> first | rfl | (rw [chkE_slice] at hx; cases hx)
  refine ⟨fun pins s σ H D I hw => ?_⟩
  obtain ⟨S, F, ρ, out, en, h, kk⟩ := hw
  simp only [ex] at h
  obtain ⟨r, e1, h⟩ := bindS h
  obtain ⟨c1, h⟩ := iteS h
  obtain ⟨q, e2, h⟩ := bindS h
  obtain ⟨⟨fl0, d0⟩, hr0⟩ := Option.isSome_iff_exists.mp c1
  split at h
  · rename_i ds hr
    split at h
    · rename_i j hj
      obtain ⟨n, hn, rfl⟩ := mapS h
      refine (ps_asg (pe_k (snd_E e g hv).1) (pg_sub (pe_nm g ho) (pe_k (snd_E k g hx).1) set_list hbase) (by cases v <;> rfl) (by cases v <;> rfl) rfl).run pins s σ H D I ⟨S, F, ρ, r, en, e1, fun w H1 F1 p1 => ?_⟩
      obtain ⟨vo, hvo, _⟩ := p1.go.env.slot i fl0 d0 hr0
      refine ⟨vo, hvo, S, F1, r.2, q, p1.go.env, e2, fun u H2 F2 p2 => ?_⟩
      obtain ⟨a, xs, hv', hl, rs, hF⟩ := own_list p2.go.env hr
      rw [hvo] at hv'
      cases hv'
      have hu : u = .int j := by
        have := p2.rep
        rw [hj] at this
        exact this
      refine ⟨a, xs, j, n, rfl, hu, hl, by rw [← rs.length]; exact hn, ?_⟩
      obtain ⟨k1, k2⟩ := put_list p2.go.env (rd_lt hr) hvo hF (rs.set (p2.go.rep p1.rep) n)
      exact kk F2 σ _ (.of ⟨k1, (p1.go.trans p2.go).fr.trans k2, (p1.go.trans p2.go).sub⟩)
    · cases h
  · rename_i es hr
    obtain ⟨c2, h⟩ := iteS h
    cases h
    obtain ⟨c2, c3⟩ := and2 c2
    have c3 := of_decide_eq_true c3
    obtain ⟨kq, hkq⟩ := keyOf c2
    refine (ps_dput (by have := g.room; omega) (pe_nm g ho) (pe_k (snd_E k g hx).1) (pe_k (snd_E e g hv).1) sw_sub).run pins s σ H D I ⟨S, F, ρ, r, en, e1, fun w H1 F1 p1 => ?_⟩
    obtain ⟨vo, hvo, _⟩ := p1.go.env.slot i fl0 d0 hr0
    refine ⟨vo, hvo, S, F1, r.2, q, p1.go.env, e2, fun u H2 F2 p2 => ?_⟩
    obtain ⟨vo', hv', rr⟩ := p2.go.env.slot i _ _ hr
    rw [hvo] at hv'
    cases hv'
    generalize hA : F2 i = A at rr
    cases rr with
    | @dct a kvs _ e3 rk =>
      have hu : u = kV kq := by
        have := p2.rep
        rw [hkq] at this
        cases kq <;> exact this
      have hl : kvs.length < sizeLine := by
        rw [← rk.length]
        exact Nat.lt_of_lt_of_le c3 (lim_line (Nat.le_refl _))
      refine ⟨a, _, rfl, by rw [hu]; exact DPut.k e3 hl, ?_⟩
      have ha : a ∈ F2 i := by rw [hA]; exact List.mem_singleton.mpr rfl
      have k1 : EnvOk X.K S F2 (q.2.set i (some (.own, .dict (kvPut es q.1 r.1)))) σ (upd H2 a (.dK (putK kvs kq w))) := by
        refine p2.go.env.put (rd_lt hr) ha hvo (.inr ⟨_, upd_same⟩) ?_
        rw [hA, hkq]
        refine .dct upd_same ((rk.put (p2.go.rep p1.rep)).step (fun b o e n => ?_) fun b z => .inl z)
        rw [upd_ne fun z => n (.inr ⟨i, by rw [z]; exact ha⟩)]
        exact e
      exact kk F2 σ _ (.of ⟨k1, (p1.go.trans p2.go).fr.trans (Fr.put ha), (p1.go.trans p2.go).sub⟩)
  · cases h

/-! ### the check -/
section
variable (N : List Str) (sc : Scope)
def parOk (ts vs : List Expr) (names : List Str) : Bool := swN sc ts vs == some (some names)
def isLoc (x : Str) : Bool := sc.names.lookup x == some .local
mutual
def chkS : S → Stmt → Bool
  | .asg (.nm i) e, .Assign [.Name x _] v _ => decide (N[i]? = some x) && isSto sc x && chkE N sc e v
  | .asg (.tp ps) e, .Assign [.Tuple ts _ _] v _ => chkPs N sc ps ts && chkE N sc e v && tupOk sc ts v
  | .par (.cons (.nm i) (.cons (.nm j) .nil)) (.cons a (.cons b .nil)), .Assign [.Tuple [.Name x px, .Name y py] _ _] (.Tuple [u, v] _ _) _ =>
    decide (N[i]? = some x) && decide (N[j]? = some y) && decide (i ≠ j) && isLoc sc x && isLoc sc y && chkE N sc a u && chkE N sc b v && parOk sc [.Name x px, .Name y py] [u, v] [x, y]
  | .par (.cons (.nm i) (.cons (.nm j) (.cons (.nm l) .nil))) (.cons a (.cons b (.cons c .nil))), .Assign [.Tuple [.Name x px, .Name y py, .Name z pz] _ _] (.Tuple [u, v, w] _ _) _ =>
    decide (N[i]? = some x) && decide (N[j]? = some y) && decide (N[l]? = some z) && decide (i ≠ j) && decide (i ≠ l) && decide (j ≠ l) && isLoc sc x && isLoc sc y && isLoc sc z && chkE N sc a u && chkE N sc b v && chkE N sc c w && parOk sc [.Name x px, .Name y py, .Name z pz] [u, v, w] [x, y, z]
  | .setx i k e, .Assign [.Subscript o x _] v _ => chkNm N sc i o && chkE N sc k x && chkE N sc e v
  | .setf i k e, .Assign [.Subscript o (.Constant (.str y) _ _) _] v _ => chkNm N sc i o && decide (k = y) && chkE N sc e v
  | .ret e, .Return (some x) _ => chkE N sc e x
  | .retN, .Return none _ => true
  | .exp e, .Expr x _ => chkE N sc e x && (compScope x).isNone
  | .ifs c a b, .If x l m _ => chkE N sc c x && chkSs a l && chkSs b m
  | .whl c b, .While x l [] _ => chkE N sc c x && chkSs b l
  | .for_ p it b, .For tg x l [] _ => chkI N sc it x tg && chkP N sc p tg && chkSs b l
  | .never, _ => true
  | .pass, .Pass _ => true
  | .brk, .Break _ => true
  | .cnt, .Continue _ => true
  | _, _ => false
def chkSs : Ss → List Stmt → Bool
  | .nil, [] => true
  | .cons s r, x :: xs => chkS s x && chkSs r xs
  | .pull i j r, .Assign [.Name y _] (.Subscript n1 (.Constant (.str k1) _ _) _) _ :: .While (.BoolOp .And [.Compare (.Subscript n2 (.Constant (.str k2) _ _) _) [.Lt] [.Constant (.int m1) _ _] _, .Compare (.Call ln [n3] [] _) [.Gt] [.Constant (.int m2) _ _] _] _)
      [.Assign [.Subscript n4 (.Constant (.str k4) _ _) _] (.Call (.Attribute n5 k5 qi) [] [] qj) _] [] _ :: rest =>
    decide (N[j]? = some y) && isSto sc y && chkNm N sc i n1 && chkNm N sc i n2 && chkNm N sc j n3 && chkNm N sc i n4 && chkNm N sc j n5 && chkGl sc "len" ln && (qi.endLine == qj.line) && decide (k1 = "cells") && decide (k2 = "left") && decide (m1 = 2) && decide (m2 = 0) && decide (k4 = "left") && decide (k5 = "pop") && chkSs r rest
  | _, _ => false
end
end
theorem isLoc_ok {x : Str} (h : isLoc sc x = true) : sc.names.lookup x = some .local := eq_of_beq h
mutual
theorem snd_S (g : Gd cl N sc sc X) (hk : sc.kind = .function) (fuel : Nat) : ∀ (s : S) (x : Stmt), chkS N sc s x = true → PS X x (tSt X.K (ex cl fuel s) (asgS s))
  | .asg p e, x, h => by
    unfold chkS at h
    split at h <;> rename_i hh <;> first | (cases hh; done) | (cases h; done) | skip
    · cases hh
      obtain ⟨h1, h2, h3⟩ := and3 h
      exact st_set g hk (of_decide_eq_true h1) h2 h3
    · cases hh
      obtain ⟨h1, h2, h3⟩ := and3 h
      exact st_tup g hk h1 h2 h3
  | .par ps es, x, h => by
    have hN : X.N.Nodup := by rw [g.eN]; exact g.nd
    unfold chkS at h
    split at h <;> rename_i hh <;> first | (cases hh; done) | (cases h; done) | skip
    · cases hh
      simp only [Bool.and_eq_true] at h
      obtain ⟨⟨⟨⟨⟨⟨⟨h1, h2⟩, h3⟩, h4⟩, h5⟩, h6⟩, h7⟩, h8⟩ := h
      refine ps_w (ps_par g.calm hN (by rw [g.eN]; exact of_decide_eq_true h1) (by rw [g.eN]; exact of_decide_eq_true h2) (of_decide_eq_true h3) (by rw [g.es]; exact isLoc_ok h4) (by rw [g.es]; exact isLoc_ok h5) (pa_cons (snd_E _ g h6).1 (pa_cons (snd_E _ g h7).1 pa_nil (noStar h7 _ _)) (noStar h6 _ _)) (swN_ok (eq_of_beq h8) g.es hk) sw_tup) (par2_w (of_decide_eq_true h3))
    · cases hh
      simp only [Bool.and_eq_true] at h
      obtain ⟨⟨⟨⟨⟨⟨⟨⟨⟨⟨⟨⟨h1, h2⟩, h3⟩, h4⟩, h5⟩, h6⟩, h7⟩, h8⟩, h9⟩, hA⟩, hB⟩, hC⟩, hD⟩ := h
      exact ps_w (ps_par3 g.calm hN (by rw [g.eN]; exact of_decide_eq_true h1) (by rw [g.eN]; exact of_decide_eq_true h2) (by rw [g.eN]; exact of_decide_eq_true h3) (of_decide_eq_true h4) (of_decide_eq_true h5) (of_decide_eq_true h6) (by rw [g.es]; exact isLoc_ok h7) (by rw [g.es]; exact isLoc_ok h8) (by rw [g.es]; exact isLoc_ok h9) (pa_cons (snd_E _ g hA).1 (pa_cons (snd_E _ g hB).1 (pa_cons (snd_E _ g hC).1 pa_nil (noStar hC _ _)) (noStar hB _ _)) (noStar hA _ _)) (swN_ok (eq_of_beq hD) g.es hk) sw_tup) (par3_w (of_decide_eq_true h4) (of_decide_eq_true h5) (of_decide_eq_true h6))
  | .setx i k e, x, h => by
    unfold chkS at h
    split at h <;> rename_i hh <;> first | (cases hh; done) | (cases h; done) | skip
    cases hh
    obtain ⟨h1, h2, h3⟩ := and3 h
    exact st_setx g h1 h2 h3
  | .setf i k e, x, h => by
    unfold chkS at h
    split at h <;> rename_i hh <;> first | (cases hh; done) | (cases h; done) | skip
    cases hh
    obtain ⟨h1, h2, h3⟩ := and3 h
    have h2 := of_decide_eq_true h2
    subst h2
    exact st_setf g h1 h3
  | .ret e, x, h => by
    unfold chkS at h
    split at h <;> rename_i hh <;> first | (cases hh; done) | (cases h; done) | skip
    cases hh
    exact st_ret (snd_E e g h).1
  | .retN, x, h => by
    cases x with
    | Return v p =>
      cases v with
      | none => exact st_retN
      | some v => cases h
    | _ => cases h
  | .exp e, x, h => by
    unfold chkS at h
    split at h <;> rename_i hh <;> first | (cases hh; done) | (cases h; done) | skip
    cases hh
    obtain ⟨h1, h2⟩ := and2 h
    exact st_exp (snd_E e g h1).1 (sw_none (Option.isNone_iff_eq_none.mp h2))
  | .ifs c a b, x, h => by
    unfold chkS at h
    split at h <;> rename_i hh <;> first | (cases hh; done) | (cases h; done) | skip
    cases hh
    obtain ⟨h1, h2, h3⟩ := and3 h
    exact st_if (snd_E c g h1).2 (snd_Ss g hk fuel a _ h2) (snd_Ss g hk fuel b _ h3)
  | .whl c b, x, h => by
    unfold chkS at h
    split at h <;> rename_i hh <;> first | (cases hh; done) | (cases h; done) | skip
    cases hh
    obtain ⟨h1, h2⟩ := and2 h
    exact st_while g (snd_E c g h1).2 (snd_Ss g hk fuel b _ h2)
  | .for_ p it b, x, h => by
    unfold chkS at h
    split at h <;> rename_i hh <;> first | (cases hh; done) | (cases h; done) | skip
    cases hh
    obtain ⟨h1, h2, h3⟩ := and3 h
    exact st_for g (snd_I it g h1) h2 (notSet_fold (chkI_set h1) _) (snd_Ss g hk fuel b _ h3)
  | .never, x, h => st_never
  | .pass, x, h => by
    cases x with
    | Pass p => exact st_pass
    | _ => cases h
  | .brk, x, h => by
    cases x with
    | Break p => exact st_brk
    | _ => cases h
  | .cnt, x, h => by
    cases x with
    | Continue p => exact st_cnt
    | _ => cases h
theorem snd_Ss (g : Gd cl N sc sc X) (hk : sc.kind = .function) (fuel : Nat) : ∀ (s : Ss) (l : List Stmt), chkSs N sc s l = true → PSs X l (tSt X.K (exs cl fuel s) (asgSs s))
  | .nil, [], _ => st_nil
  | .nil, _ :: _, h => by cases h
  | .cons _ _, [], h => by cases h
  | .pull i j r, l, h => by
    unfold chkSs at h
    split at h <;> rename_i hh <;> first | (cases hh; done) | (cases h; done) | skip
    cases hh
    simp only [Bool.and_eq_true, decide_eq_true_eq] at h
    obtain ⟨⟨⟨⟨⟨⟨⟨⟨⟨⟨⟨⟨⟨⟨⟨a1, a2⟩, a3⟩, a4⟩, a5⟩, a6⟩, a7⟩, a8⟩, a9⟩, aA⟩, aB⟩, aC⟩, aD⟩, aE⟩, aF⟩, aG⟩ := h
    have ih := snd_Ss g hk fuel r _ aG
    subst aA aB aC aD aE aF
    refine st_pull g hk a1 a2 a3 a4 a5 a6 a7 a8 a9 ih
  | .cons s r, x :: xs, h => by
    obtain ⟨h1, h2⟩ := and2 (show (chkS N sc s x && chkSs N sc r xs) = true from h)
    exact st_cons (snd_S g hk fuel s x h1) (snd_Ss g hk fuel r xs h2)
end
end
end Mini

end
section
set_option Elab.async false
set_option linter.all false
set_option maxRecDepth 100000
set_option maxHeartbeats 4000000
/-! Mini, part 21: defs. -/
namespace Mini
open PySem PySem.Spec PyProof.Rows L2
section
variable {P : Program} {w : World} {K : PySem.W.Frag} {mg : Str → Option Value} {base : Heap}
/-- a def by its body, no guard around -/
theorem fn_ofG {k : Nat} {f : Addr} {name qual : Str} {params : Arguments} {body : List Stmt} {scope : Scope} {dV kV doc pm cdv ct oc : Value} {an od : Option Addr} {osl : Array (Option Value)} {N ps : List Str} {sp : Sp}
    (look : K.lookup f = some ⟨oc, od, .func (PySem.W.fnOf name qual params body scope dV kV doc pm an cdv ct), osl⟩) (code : PySem.W.codeIn K cdv qual = true) (sco : FnScope N ps scope) (len : ∀ vs H Q E, sp vs H Q E → vs.length = ps.length)
    (body_ok : ∀ (A : Around) (outer : List Env) (s : Shared) (H : Hp) (vs : List V) (Q : VK) (E : XK), Room k (A.deeper (envOfC qual scope s.heap.objs.size f cdv)) → A.guards = some [] → sp vs H Q E →
      ∃ t, PSs (cxOf CX0 P w K mg base N qual scope f cdv A outer s H E).nox body t ∧ t { nx := fun _ H' => Q .non H', rt := Q } (L2.start N vs) H) :
    FnG P w K mg base (k + 1) f (PySem.W.fnOf name qual params body scope dV kV doc pm an cdv ct) ps sp := by
  refine ⟨len, fun A outer s H args us vs Q E room hgu e0 hbind rel hsp => ?_⟩
  have lenv := len _ _ _ _ hsp
  have inK : K.In s.heap := e0.mod.kin.keeps fun c u q => (e0.bs c u q).1
  have nolim : s.heap.NoLimit := e0.mod.nolimit.keeps fun c u q => (e0.bs c u q).1
  have kinds : ∀ y ∈ ps.zip us, scope.names.lookup y.1 = some .local ∨ (scope.names.lookup y.1 = some .cell ∧ ((cellsFrom (s.heap.objs.size + 1) scope.names []).lookup y.1).isSome = true) := fun ⟨n, v⟩ hy =>
    (sco.par n (List.of_mem_zip hy).1).imp id fun q => ⟨q, PySem.W.cellsFrom_some _ _ _ (.inl q)⟩
  refine codeAny_call_function room.depth (inK _ _ look) rfl sco.co sco.gen rfl (PySem.W.codeRec_of inK code) (hbind _ _ _ _ (wpAny_newFunctionEnv_cells sco.kind kinds fun env he s1 x => ?_))
  subst he
  refine ⟨nolim.keeps x.toInCall.keep, codeAny_func ?_⟩
  obtain ⟨t, ht, hq⟩ := body_ok A outer s H vs Q E (room.deeper _) hgu hsp
  have I := inv_start (CX := CX0) (E := E) sco room.hd e0 lenv rel x
  refine wpAny_mono (ht.nox.run [] s1 (L2.start N vs) H _ I hq) (fun fl s' hs => ?_) fun e s' hs => hs
  have done : ∀ {σ' : L2.St} {H' : Hp} {v : V} {u : Value}, Inv (cxOf CX0 P w K mg base N qual scope f cdv A outer s H E) [] σ' H' s' → L2.RelV v u → Q v H' → CE outer P w H s Q u s' := fun {σ' H' v u} J rv q => ⟨v, H', J.os, J.bare, J.base, J.hok, rv, q⟩
  cases fl with
  | ret u =>
    obtain ⟨v, σ', H', J, rv, q⟩ := hs
    exact done J rv q
  | next =>
    obtain ⟨σ', H', J, q⟩ := hs
    exact done (v := V.non) (u := Value.none) J rfl q
  | brk => exact hs.elim fun _ q => q.elim fun _ q => q.2.elim
  | cont => exact hs.elim fun _ q => q.elim fun _ q => q.2.elim
end

/-! ### a def's meaning -/
def isTup : Dt → Bool
  | .tuple _ => true
  | _ => false
/-- what the arguments hold at the end -/
def outs (ρ' : En) : Nat → List Sl → Option (List Dt)
  | _, [] => some []
  | i, (fl, d) :: r => if fl = .sh then (outs ρ' (i + 1) r).map (d :: ·) else match rd ρ' i with
    | some (fl', o) => if fl' = fl ∧ isTup o = isTup d then (outs ρ' (i + 1) r).map (o :: ·) else none
    | none => none
/-- lent slots are not stored anew -/
def lentOk (asg : List Nat) : Nat → List Sl → Bool
  | _, [] => true
  | i, (fl, _) :: r => (decide (fl = .sh) || !(asg.contains i)) && lentOk asg (i + 1) r
def runDef (cl : CallS) (fuel np nN : Nat) (body : Ss) (as : List Sl) : Option (Sl × List Dt) :=
  if (decide (as.length = np) && lentOk (asgSs body) 0 as) = true then match exs cl fuel body (as.map some ++ List.replicate (nN - as.length) none) with
    | some (.nx ρ') => (outs ρ' 0 as).map fun os => ((.sh, .none), os)
    | some (.rt r ρ') => if okFl r.1 then (outs ρ' 0 as).map fun os => (r, os) else none
    | _ => none
  else none
theorem outs_ok {ρ' : En} : ∀ {as : List Sl} {i : Nat} {os : List Dt}, outs ρ' i as = some os → os.length = as.length ∧ ∀ (j : Nat) (fl : Fl) (d : Dt), as[j]? = some (fl, d) → ∃ o, os[j]? = some o ∧ (fl = .sh → o = d) ∧ (fl ≠ .sh → rd ρ' (i + j) = some (fl, o) ∧ isTup o = isTup d)
  | [], i, os, h => by cases h; exact ⟨rfl, fun j fl d h => by simp at h⟩
  | (fl0, d0) :: r, i, os, h => by
    simp only [outs] at h
    by_cases hs : fl0 = .sh
    · rw [if_pos hs] at h
      obtain ⟨os', h1, rfl⟩ := mapS h
      obtain ⟨l, k⟩ := outs_ok h1
      refine ⟨by simp [l], fun j fl d hj => ?_⟩
      cases j with
      | zero =>
        simp at hj
        obtain ⟨rfl, rfl⟩ := hj
        exact ⟨d0, rfl, fun _ => rfl, fun z => absurd hs z⟩
      | succ j =>
        obtain ⟨o, k1, k2, k3⟩ := k j fl d (by simpa using hj)
        refine ⟨o, by simpa using k1, k2, fun z => ?_⟩
        have e : i + (j + 1) = i + 1 + j := by omega
        rw [e]
        exact k3 z
    · rw [if_neg hs] at h
      split at h
      · rename_i fl' o hr
        obtain ⟨c, h⟩ := (show _ ∧ _ from by
          by_cases c : fl' = fl0 ∧ isTup o = isTup d0
          · rw [if_pos c] at h; exact ⟨c, h⟩
          · rw [if_neg c] at h; cases h)
        obtain ⟨os', h1, rfl⟩ := mapS h
        obtain ⟨l, k⟩ := outs_ok h1
        refine ⟨by simp [l], fun j fl d hj => ?_⟩
        cases j with
        | zero =>
          simp at hj
          obtain ⟨rfl, rfl⟩ := hj
          refine ⟨o, rfl, fun z => absurd z hs, fun _ => ⟨?_, c.2⟩⟩
          rw [Nat.add_zero, hr, c.1]
        | succ j =>
          obtain ⟨o', k1, k2, k3⟩ := k j fl d (by simpa using hj)
          refine ⟨o', by simpa using k1, k2, fun z => ?_⟩
          have e : i + (j + 1) = i + 1 + j := by omega
          rw [e]
          exact k3 z
      · cases h
theorem lentOk_ok {asg : List Nat} : ∀ {as : List Sl} {i : Nat}, lentOk asg i as = true → ∀ (j : Nat) (fl : Fl) (d : Dt), as[j]? = some (fl, d) → fl ≠ .sh → i + j ∉ asg
  | [], i, h, j, fl, d, hj, _ => by simp at hj
  | (fl0, d0) :: r, i, h, j, fl, d, hj, hs => by
    obtain ⟨h1, h2⟩ := and2 (show ((decide (fl0 = .sh) || !(asg.contains i)) && lentOk asg (i + 1) r) = true from h)
    cases j with
    | zero =>
      simp at hj
      obtain ⟨rfl, rfl⟩ := hj
      simp [hs] at h1
      simpa using h1
    | succ j =>
      have := lentOk_ok h2 j fl d (by simpa using hj) hs
      have e : i + (j + 1) = i + 1 + j := by omega
      rw [e]
      exact this
theorem rd_some {as : List Sl} {j : Nat} {x : Sl} : rd (as.map some) j = some x ↔ as[j]? = some x := by
  unfold rd
  rw [List.getElem?_map]
  cases as[j]? <;> simp
theorem rd_app {as : List Sl} {n j : Nat} : rd (as.map some ++ List.replicate n none) j = rd (as.map some) j := by
  unfold rd
  by_cases h : j < as.length
  · rw [List.getElem?_append_left (by simpa using h)]
  · rw [List.getElem?_append_right (by simpa using h), List.getElem?_replicate, List.getElem?_eq_none (l := as.map some) (by simpa using h)]
    split <;> rfl
section
variable {K : PySem.W.Frag} {S : Addr → Prop} {F F' : Fs} {as : List Sl} {vs : List V} {H H' : Hp} {σ' : L2.St} {ρ' : En}
theorem env_app (e : EnvOk K S F (as.map some) (vs.map some) H) (n : Nat) : EnvOk K S F (as.map some ++ List.replicate n none) (vs.map some ++ List.replicate n none) H := by
  have hl : as.length = vs.length := by simpa using e.len
  refine ⟨by simp [hl], fun j fl d h => ?_, fun j h => ?_, e.dis, e.ext, e.wf⟩
  · rw [rd_app] at h
    obtain ⟨v, hv, r⟩ := e.slot j fl d h
    refine ⟨v, ?_, r⟩
    have hj : j < (vs.map some).length := (List.getElem?_eq_some_iff.mp hv).1
    rw [List.getElem?_append_left hj]
    exact hv
  · rw [rd_app] at h
    exact e.emp j h
theorem outEn_get {os : List Dt} (hl : os.length = as.length) {j : Nat} {fl : Fl} {d o : Dt} (h : as[j]? = some (fl, d)) (ho : os[j]? = some o) : rd (outEn as os) j = some (fl, if fl = .sh then d else o) := by
  unfold rd outEn
  rw [List.getElem?_zipWith, h, ho]
  rfl
theorem outEn_none {os : List Dt} {j : Nat} (hl : os.length = as.length) (h : rd (outEn as os) j = none) : as[j]? = none := by
  cases q : as[j]? with
  | none => rfl
  | some x =>
    obtain ⟨fl, d⟩ := x
    have hj : j < as.length := (List.getElem?_eq_some_iff.mp q).1
    rw [outEn_get hl q (List.getElem?_eq_getElem (by omega))] at h
    cases h
/-- a def's end -/
theorem fn_end {asg : List Nat} {r : Sl} {os : List Dt} {v : V} {A : List Addr} {n : Nat} (e : EnvOk K S F (as.map some) (vs.map some) H) (hl : lentOk asg 0 as = true) (ho : outs ρ' 0 as = some os)
    (p : RtS K S F (vs.map some ++ List.replicate n none) H asg r ρ' v F' σ' H' A) : FnPost K S F as vs H (r, os) v H' A := by
  obtain ⟨lo, ko⟩ := outs_ok ho
  have hlen : as.length = vs.length := by simpa using e.len
  have empty : ∀ j d, as[j]? = some (.sh, d) → F j = [] := fun j d h => by
    obtain ⟨v, _, q⟩ := e.slot j .sh d (rd_some.mpr h)
    generalize F j = B at q
    cases q
    rfl
  -- the lent slots' objects are the ones of the beginning
  have same : ∀ j fl d, as[j]? = some (fl, d) → fl ≠ .sh → F' j = F j := fun j fl d h hs => by
    have na := lentOk_ok hl j fl d h hs
    rw [Nat.zero_add] at na
    rcases (p.sub j na).1 with q | q
    · exact q
    · obtain ⟨o, _, _, k3⟩ := ko j fl d h
      obtain ⟨k3, k4⟩ := k3 hs
      rw [Nat.zero_add] at k3
      obtain ⟨v2, _, r2⟩ := p.env.slot j fl o k3
      obtain ⟨v1, _, r1⟩ := e.slot j fl d (rd_some.mpr h)
      rw [q] at r2 ⊢
      generalize F j = B at r1
      cases r1 with
      | sh _ => exact absurd rfl hs
      | lst _ _ => cases r2
      | dct _ _ => cases r2
      | src _ _ _ =>
        cases r2 with
        | scr _ => cases k4
      | scr _ => rfl
  have lent : ∀ j a, a ∈ F j → ∃ fl d, as[j]? = some (fl, d) ∧ fl ≠ .sh := fun j a ha => by
    cases q : as[j]? with
    | none =>
      have : rd (as.map some) j = none := by
        unfold rd
        rw [List.getElem?_map, q]
        rfl
      rw [e.emp j this] at ha
      cases ha
    | some x =>
      obtain ⟨fl, d⟩ := x
      refine ⟨fl, d, rfl, fun z => ?_⟩
      subst z
      rw [empty j d q] at ha
      cases ha
  have sub : ∀ j a, a ∈ F j → a ∈ F' j := fun j a ha => by
    obtain ⟨fl, d, h1, h2⟩ := lent j a ha
    rw [same j fl d h1 h2]
    exact ha
  have new : ∀ a ∈ A, H a = none := fun a ha => by
    rcases p.new a ha with ⟨j, hj⟩ | h
    · exact absurd (.inr ha) (p.env.ext j a (sub j a hj))
    · exact h
  have wt : ∀ a, Wt (addS S A) F a → Wt (addS S A) F' a := fun a z => z.imp id fun ⟨j, z⟩ => ⟨j, sub j a z⟩
  have wt0 : ∀ a, Wt (addS S A) F a → Wt S F a ∨ H a = none := fun a z => by
    rcases z with (z | z) | z
    · exact .inl (.inl z)
    · exact .inr (new a z)
    · exact .inl (.inr z)
  refine ⟨lo, p.ok, p.fr.keep, p.fr.there, new, ⟨by simp [outEn, lo, hlen], fun j fl d h => ?_, fun j h => ?_, e.dis, fun j a ha => p.env.ext j a (sub j a ha), p.env.wf⟩, p.res.mono wt p.env.wt⟩
  · cases q : as[j]? with
    | none =>
      have hj : as.length ≤ j := List.getElem?_eq_none_iff.mp q
      have h' : (outEn as os)[j]?.join = some (fl, d) := h
      rw [List.getElem?_eq_none (by simp [outEn, lo]; omega)] at h'
      cases h'
    | some x =>
      obtain ⟨fl0, d0⟩ := x
      obtain ⟨o, k1, k2, k3⟩ := ko j fl0 d0 q
      rw [outEn_get lo q k1] at h
      cases h
      by_cases hs : fl = .sh
      · subst hs
        obtain ⟨v1, hv1, r1⟩ := e.slot j .sh d0 (rd_some.mpr q)
        refine ⟨v1, hv1, ?_⟩
        rw [if_pos rfl]
        have eF := empty j d0 q
        rw [eF] at r1 ⊢
        cases r1 with
        | sh r1 => exact .sh (r1.step (fun b u z n => p.fr.keep b u z fun i hi => n (.inr ⟨i, hi⟩)) wt0)
      · rw [if_neg hs]
        obtain ⟨k3, _⟩ := k3 hs
        rw [Nat.zero_add] at k3
        obtain ⟨v1, hv1, r1⟩ := p.env.slot j fl o k3
        have na := lentOk_ok hl j fl d0 q hs
        rw [Nat.zero_add] at na
        rw [(p.sub j na).2] at hv1
        have hj : j < (vs.map some).length := by
          have := (List.getElem?_eq_some_iff.mp q).1
          simp only [List.length_map]
          omega
        rw [List.getElem?_append_left hj] at hv1
        refine ⟨v1, hv1, ?_⟩
        rw [← same j fl d0 q hs]
        exact r1.mono wt p.env.wt
  · refine e.emp j ?_
    unfold rd
    rw [List.getElem?_map, outEn_none lo h]
    rfl
end
theorem runDef_ok {K : PySem.W.Frag} {cl : CallS} {fuel np : Nat} {N : List Str} {body : Ss} {vs : List V} {H : Hp} {Q : VK} {E : XK} (h : spD K (runDef cl fuel np N.length body) vs H Q E) :
    tSt K (exs cl fuel body) (asgSs body) { nx := fun _ H' => Q .non H', rt := Q } (L2.start N vs) H := by
  obtain ⟨S, F, as, r, e, h1, k⟩ := h
  have hlen : as.length = vs.length := by simpa using e.len
  unfold runDef at h1
  obtain ⟨c, h1⟩ := iteS h1
  obtain ⟨_, c2⟩ := and2 c
  have e2 := env_app e (N.length - as.length)
  have hst : L2.start N vs = vs.map some ++ List.replicate (N.length - as.length) none := by unfold L2.start; rw [hlen]
  rw [hst]
  cases hx : exs cl fuel body (as.map some ++ List.replicate (N.length - as.length) none) with
  | none => rw [hx] at h1; cases h1
  | some o =>
    rw [hx] at h1
    refine ⟨S, F, _, o, e2, hx, ?_⟩
    cases o with
    | nx ρ' =>
      obtain ⟨os, ho, rfl⟩ := mapS h1
      exact fun F' σ' H' g => k .non H' [] (fn_end (n := N.length - as.length) e c2 ho ⟨g.env.nil, rfl, .sh rfl, g.fr, g.sub, fun a ha => (by cases ha), fun a ha => (by cases ha)⟩)
    | rt r1 ρ' =>
      obtain ⟨c3, h1⟩ := iteS (show (if okFl r1.1 = true then (outs ρ' 0 as).map (fun os => (r1, os)) else none) = some r from h1)
      obtain ⟨os, ho, rfl⟩ := mapS h1
      exact fun v F' σ' H' A g => k v H' A (fn_end (n := N.length - as.length) e c2 ho g)
    | bk ρ' => cases h1
    | ct ρ' => cases h1
theorem runDef_len {K : PySem.W.Frag} {cl : CallS} {fuel np nN : Nat} {body : Ss} {vs : List V} {H : Hp} {Q : VK} {E : XK} (h : spD K (runDef cl fuel np nN body) vs H Q E) : vs.length = np := by
  obtain ⟨S, F, as, r, e, h1, k⟩ := h
  unfold runDef at h1
  obtain ⟨c, h1⟩ := iteS h1
  obtain ⟨c, _⟩ := and2 c
  have hlen : as.length = vs.length := by simpa using e.len
  rw [← hlen]
  exact of_decide_eq_true c

/-! ### the table of defs -/
structure Df where
  ps : List Str
  N : List Str
  body : Ss
def callF (tbl : Str → Option Df) (ext : CallS) (fuel : Nat) : Nat → CallS
  | 0 => ext
  | k + 1 => fun f as => match tbl f with
    | some d => runDef (callF tbl ext fuel k) fuel d.ps.length d.N.length d.body as
    | none => ext f as
def Tbl (P : Program) (w : World) (K : PySem.W.Frag) (mg : Str → Option Value) (base : Heap) (k : Nat) (cl : CallS) : Prop :=
  ∀ f as r, cl f as = some r → ∃ a fd ps, mg f = some (.ref a) ∧ PySem.W.keepIn K (.ref a) = true ∧ Binds K fd ps [] ∧ FnG P w K mg base k a fd ps (spD K (cl f))
/-- a def of the text that a table's row tells -/
structure DefOk (K : PySem.W.Frag) (mg : Str → Option Value) (f : Str) (d : Df) : Prop where
  ex : ∃ (x qual : Str) (params : Arguments) (body : List Stmt) (scope : Scope) (a : Addr) (fd : FuncData), mg f = some (.ref a) ∧ FunD K x qual params body scope [] [] a fd ∧ Binds K fd d.ps [] ∧ FnScope d.N d.ps scope ∧ chkSs d.N scope d.body body = true
section
variable {P : Program} {w : World} {K : PySem.W.Frag} {mg : Str → Option Value} {base : Heap}
theorem FnG.mini {cl : CallS} {fuel k : Nat} {x qual : Str} {params : Arguments} {body : List Stmt} {scope : Scope} {a : Addr} {fd : FuncData} {d : Df} (hT : Tbl P w K mg base k cl) (free : ∀ x ∈ freeN, mg x = none)
    (D : FunD K x qual params body scope [] [] a fd) (sco : FnScope d.N d.ps scope) (chk : chkSs d.N scope d.body body = true) : FnG P w K mg base (k + 1) a fd d.ps (spD K (runDef cl fuel d.ps.length d.N.length d.body)) := by
  obtain ⟨oc, od, dV, kV, doc, pm, an, cdv, ct, osl, rfl, lk, hcd, _, _⟩ := D.ex
  refine fn_ofG lk hcd sco (fun vs H Q E h => runDef_len h) fun A outer s H vs Q E hr hgu hsp => ?_
  refine ⟨_, snd_Ss (cl := cl) (N := d.N) (sc := scope) ⟨rfl, sco.nd, rfl, rfl, rfl, hgu, ?_, fun y h => ⟨h, .inl rfl⟩, free, fun f as r h => ?_⟩ sco.kind fuel d.body body chk, runDef_ok hsp⟩
  · have := hr.un
    show (A.deeper _).units + 100 < cLine
    omega
  · obtain ⟨a', fd', ps', h1, h2, h3, h4⟩ := hT f as r h
    exact ⟨k, a', fd', ps', h1, h2, h3, hr, h4⟩
theorem Tbl.mono {cl : CallS} {j k : Nat} (h : Tbl P w K mg base j cl) (hjk : j ≤ k) : Tbl P w K mg base k cl := fun f as r e => by
  obtain ⟨a, fd, ps, h1, h2, h3, h4⟩ := h f as r e
  exact ⟨a, fd, ps, h1, h2, h3, h4.mono hjk⟩
theorem tbl_ok {tbl : Str → Option Df} {ext : CallS} {fuel k0 : Nat} (hE : Tbl P w K mg base k0 ext) (free : ∀ x ∈ freeN, mg x = none) (hD : ∀ f d, tbl f = some d → DefOk K mg f d) : ∀ k, Tbl P w K mg base (k0 + k) (callF tbl ext fuel k)
  | 0 => hE
  | k + 1 => fun f as r h => by
    cases ht : tbl f with
    | none =>
      have e : callF tbl ext fuel (k + 1) f = ext f := by
        funext as
        show (match tbl f with | some d => _ | none => ext f as) = _
        rw [ht]
      rw [e] at h ⊢
      exact (hE.mono (Nat.le_add_right k0 (k + 1))) f as r h
    | some d =>
      have e : callF tbl ext fuel (k + 1) f = runDef (callF tbl ext fuel k) fuel d.ps.length d.N.length d.body := by
        funext as
        show (match tbl f with | some d => _ | none => ext f as) = _
        rw [ht]
      obtain ⟨x, qual, params, body, scope, a, fd, h1, h2, h3, h4, h5⟩ := (hD f d ht).ex
      rw [e]
      exact ⟨a, fd, d.ps, h1, h2.kp, h3, FnG.mini (tbl_ok hE free hD k) free h2 h4 h5⟩
end
end Mini

end
section
set_option Elab.async false
set_option linter.all false
set_option maxRecDepth 100000
set_option maxHeartbeats 4000000
/-! Mini, part 22: the law's end. -/
namespace Mini
open PySem PySem.Spec PyProof.Rows L2
/-- the heap behind the top, of which only the script is told, and what a def's promise gives there -/
theorem end_core {P : Program} {w : World} {K : PySem.W.Frag} {mg mb : Str → Option Value} {k : Nat} {fa a : Addr} {fd : FuncData} {x : Str} {sp : Sp} {s₁ : Shared} {vs : List Value} {H : Hp}
    (inK : K.In s₁.heap) (nsG : s₁.heap.Ns mainGlobals mg) (nsB : s₁.heap.Ns builtinsNs mb) (boot : ∀ x : Str, x ≠ "__name__" → mb x = bootBuiltins x) (nolim : s₁.heap.NoLimit) (gens : s₁.gens = #[])
    (ha : s₁.heap.get? a = some { cls := .type "list", data := .seq vs.toArray }) (room : Room k callerA) (F : ∀ base : Heap, K.In base → base.Ns mainGlobals mg → FnG P w K mg base k fa fd [x] sp)
    (bind1 : ∀ (s : Shared) (u : Value), BindsTo s fd ⟨[u], []⟩ [(x, u)]) (only : Only H) (hsp : sp [.ref a] H (fun v _ => v = .bl true) fun _ _ _ => False) (hok : HOk P w H s₁.heap) (told : ∀ b, H b ≠ none → b = a) (free : H a ≠ none → K.lookup a = none) :
    codeAny (model P w) callerA (.call (.ref fa) ⟨[.ref a], []⟩) (fun r s' => r = .ok (.ret (.bool true)) ∧ OldK s₁.heap s'.heap ∧ s'.os = s₁.os ∧ AllBare s'.gens) s₁ := by
  have stays : ∀ {b : Addr} {o : Obj}, s₁.heap.get? b = some o → H b = none → (hidT s₁.heap H).get? b = some o := fun q n => hidT_get q n
  have untold : ∀ {b : Addr}, b ≠ a → H b = none := fun {b} hb => by
    cases q : H b with
    | none => rfl
    | some u => exact absurd (told b (by rw [q]; exact Option.some_ne_none _)) hb
  have dictFree : ∀ {b : Addr} {o : Obj} {es : Array DictEntry} {n : Nat}, s₁.heap.get? b = some o → o.data = .dict es n → H b = none := fun {b o es n} q hd => untold fun z => by
    rw [z, ha] at q
    have q' := Option.some.inj q
    subst q'
    cases hd
  have nsK : ∀ {b : Addr} {m : Str → Option Value}, s₁.heap.Ns b m → (hidT s₁.heap H).Ns b m := fun {b m} hn => by
    obtain ⟨o, es, n, q, hd, r⟩ := hn
    exact ⟨o, es, n, stays q (dictFree q hd), hd, r⟩
  have inH : K.In (hidT s₁.heap H) := fun b o q => stays (inK b o q) (by
    by_cases hb : b = a
    · subst hb
      cases z : H b with
      | none => rfl
      | some u =>
        rw [free (by rw [z]; exact Option.some_ne_none _)] at q
        cases q
    · exact untold hb)
  have modH : Mod K mg (hidT s₁.heap H) := by
    obtain ⟨mc, l1, l2⟩ := nolim
    exact ⟨inH, nsK nsG, ⟨mb, nsK nsB, boot⟩, mc, nsK l1, l2⟩
  have env0 : Env0 P w K mg (hidT s₁.heap H) callerA [] s₁ H :=
    ⟨rfl, modH, fun b o q => of_hidT q, Nat.le_of_eq (hidT_size _ _), trivial, fun b hb => (by cases (show b ∈ ([] : List Addr) from hb)), hok, .of_eq gens⟩
  refine codeAny_mono ((F _ inH (nsK nsG)).run callerA [] s₁ H ⟨[.ref a], []⟩ [.ref a] [.ref a] _ _ room rfl env0 (bind1 s₁ (.ref a)) (.cons rfl .nil) hsp) fun r s' h => ?_
  cases r with
  | error e => exact False.elim h
  | ok fl =>
    cases fl with
    | ret u =>
      obtain ⟨v, H', os, bare, un, hok', rv, q⟩ := h
      have q' : v = .bl true := q
      subst q'
      obtain rfl : u = Value.bool true := rv
      refine ⟨rfl, OldK.of_keep fun b o e => ?_, os, bare⟩
      cases z : H b with
      | none => exact un.keep b o e z (fun m => by cases (show b ∈ ([] : List Addr) from m)) (by simp)
      | some u =>
        rcases only b with y | ⟨ob, xs, y⟩
        · rw [z] at y; cases y
        · obtain ⟨e1, _⟩ := hok b _ y
          obtain ⟨e2, _⟩ := hok' b _ (un.frzs b ob _ y)
          rw [e] at e1
          rw [Option.some.inj e1]
          exact e2
    | next => exact False.elim h
    | brk => exact False.elim h
    | cont => exact False.elim h
theorem end_call {P : Program} {w : World} {K : PySem.W.Frag} {mg mb : Str → Option Value} {k : Nat} {fa a : Addr} {fd : FuncData} {x : Str} {sp : Sp} {s₁ : Shared} {vs : List Value} {ns : List Int}
    (inK : K.In s₁.heap) (nsG : s₁.heap.Ns mainGlobals mg) (nsB : s₁.heap.Ns builtinsNs mb) (boot : ∀ x : Str, x ≠ "__name__" → mb x = bootBuiltins x) (nolim : s₁.heap.NoLimit) (gens : s₁.gens = #[])
    (ha : s₁.heap.get? a = some { cls := .type "list", data := .seq vs.toArray }) (hi : IntsAre vs ns) (len : ns.length ≤ sizeLine) (room : Room k callerA) (F : ∀ base : Heap, K.In base → base.Ns mainGlobals mg → FnG P w K mg base k fa fd [x] sp)
    (bind1 : ∀ (s : Shared) (u : Value), BindsTo s fd ⟨[u], []⟩ [(x, u)]) (hsp : ∀ H : Hp, Only H → SqL K H a (ns.map V.int) → sp [.ref a] H (fun v _ => v = .bl true) fun _ _ _ => False) :
    codeAny (model P w) callerA (.call (.ref fa) ⟨[.ref a], []⟩) (fun r s' => r = .ok (.ret (.bool true)) ∧ OldK s₁.heap s'.heap ∧ s'.os = s₁.os ∧ AllBare s'.gens) s₁ := by
  have rel := vals_ints hi
  have vlen := hi.length
  cases hk : K.lookup a with
  | some o =>
    have q := inK a o hk
    rw [ha] at q
    have q' := Option.some.inj q
    subst q'
    have o1 : Only (fun _ => none) := fun _ => .inl rfl
    refine end_core (H := fun _ => none) inK nsG nsB boot nolim gens ha room F bind1 o1 (hsp _ o1 (.inr ⟨_, vs.toArray, _, hk, rfl, rfl, rfl, by rw [List.size_toArray, vlen]; exact len, by simpa using rel⟩)) (fun b u z => (by cases (show (none : Option HO) = some u from z))) (fun b z => absurd rfl z) fun z => absurd rfl z
  | none =>
    let Hs : Hp := fun b => if b = a then some (.frz { cls := .type "list", data := .seq vs.toArray } (.lst (ns.map V.int))) else none
    have ha' : Hs a = some (.frz { cls := .type "list", data := .seq vs.toArray } (.lst (ns.map V.int))) := if_pos rfl
    have hn : ∀ b, b ≠ a → Hs b = none := fun b hb => if_neg hb
    have o1 : Only Hs := fun b => by
      by_cases hb : b = a
      · exact .inr ⟨_, _, by rw [hb]; exact ha'⟩
      · exact .inl (hn b hb)
    refine end_core (H := Hs) inK nsG nsB boot nolim gens ha room F bind1 o1 (hsp _ o1 (.inl (.inr ⟨_, ha'⟩))) (fun b u z => ?_) (fun b z => ?_) fun _ => hk
    · by_cases hb : b = a
      · subst hb
        rw [ha'] at z
        have z' := Option.some.inj z
        subst z'
        exact ⟨ha, by rw [List.length_map]; exact len, vs, _, rel, ha⟩
      · rw [hn b hb] at z; cases z
    · by_cases hb : b = a
      · exact hb
      · exact absurd (hn b hb) z
/-- the goal that the head leaves, from a def's promise -/
theorem walk_G {l : PySem.W.OpenLaw} {n k : Nat} {q : Program} {loose : List Str} {XP : (Str → Option Value) → Heap → Prop} {YP : World → Heap → Prop} {d : DefRec} {x : Str} (hn : l.most = some n) (hn2 : n ≤ sizeLine) (hdf : d.params.defaults = []) (room : Room k callerA)
    (F : ∀ (w : World) (mg : Str → Option Value) (fa : Addr) (h : Heap), YP w h → h.Ns mainGlobals mg → mg d.name = some (.ref fa) → ∃ (K : PySem.W.Frag) (fd : FuncData) (sp : Sp), K.In h ∧ (∀ (s : Shared) (u : Value), BindsTo s fd ⟨[u], []⟩ [(x, u)]) ∧
      (∀ (H : Hp) (a : Addr) (ns : List Int), ns.length ≤ n → Only H → SqL K H a (ns.map V.int) → sp [.ref a] H (fun v _ => v = .bl true) fun _ _ _ => False) ∧ ∀ base : Heap, K.In base → base.Ns mainGlobals mg → FnG l.prog w K mg base k fa fd [x] sp) :
    PySem.W.WalkO q loose XP YP l.row.toRowW d [] (fun f vs => PySem.call f vs) := by
  refine Att.attach_call hn hdf fun w s₀ s₁ mg mb fa o pm cd doc a vs ns G Y ho hd hcd hmg hobj hints hlen hg => ?_
  obtain ⟨K, fd, sp, inK, hb, hs, hF⟩ := F w mg fa _ Y G.T.g hmg
  exact end_call inK G.T.g G.T.b G.T.builtins G.T.nolimit hg hobj hints (Nat.le_trans hlen hn2) room hF hb fun H hO hS => hs H a ns hlen hO hS
/-- the law's def, asked of the script -/
theorem law_sp {K : PySem.W.Frag} {φ : List Sl → Option (Sl × List Dt)} {H : Hp} {a : Addr} {ns : List Int} (only : Only H) (hS : SqL K H a (ns.map V.int)) (h : ∃ os, φ [(.src, .list (ns.map .int))] = some ((.sh, .bool true), os)) :
    spD K φ [.ref a] H (fun v _ => v = .bl true) fun _ _ _ => False := by
  obtain ⟨os, h⟩ := h
  have hs : SlotRep K (Wt (fun _ => False) fun _ => []) H .src (.ref a) (.list (ns.map .int)) [] := by
    refine .scr ?_
    rcases hS with (h1 | h1) | h1
    · rcases only a with z | ⟨o, xs, z⟩ <;> (rw [h1] at z; cases z)
    · exact .inl h1
    · exact .inr h1
  refine ⟨fun _ => False, fun _ => [], [(.src, .list (ns.map .int))], _, ⟨rfl, fun i fl d q => ?_, fun _ _ => rfl, fun i j b z => (by cases z), fun i b z => (by cases z), fun b z => z.elim⟩, h, fun v H' A p => ?_⟩
  · cases i with
    | zero =>
      cases q
      exact ⟨_, rfl, hs⟩
    | succ i => cases q
  · cases p.res with
    | sh r => exact r
end Mini

end
section
set_option Elab.async false
set_option linter.all false
set_option maxRecDepth 100000
set_option maxHeartbeats 4000000
/-! Plain, part 1: the interpreter's loops, plainly. -/
namespace Mini
open PySem
/-- a tuple, a list of ints -/
abbrev tI_ (ns : List Int) : Dt := .tuple (ns.map .int)
abbrev lI_ (ns : List Int) : Dt := .list (ns.map .int)
theorem forL_nil {f : En → Dt → Option Out} {ρ : En} : forL f [] ρ = some (.nx ρ) := rfl
theorem forL_fold {α : Type} {f : En → Dt → Option Out} (enc : α → En) (step : α → Dt → α) (I : α → Prop) : ∀ (ds : List Dt) (s : α), I s → (∀ s d, I s → d ∈ ds → f (enc s) d = some (.nx (enc (step s d))) ∧ I (step s d)) →
    forL f ds (enc s) = some (.nx (enc (ds.foldl step s))) ∧ I (ds.foldl step s)
  | [], s, hI, _ => ⟨rfl, hI⟩
  | d :: ds, s, hI, h => by
    obtain ⟨h1, h2⟩ := h s d hI (List.mem_cons_self ..)
    simp only [forL, h1]
    exact forL_fold enc step I ds _ h2 fun s d hs hd => h s d hs (List.mem_cons_of_mem _ hd)
theorem compL_map {f : En → Dt → Option (Option Dt × En)} {ρ : En} (g : Dt → Dt) : ∀ ds : List Dt, (∀ d ∈ ds, f ρ d = some (some (g d), ρ)) → compL f ds ρ = some (ds.map g, ρ)
  | [], _ => rfl
  | d :: ds, h => by
    have h1 := h d (List.mem_cons_self ..)
    have h2 := compL_map g ds fun d hd => h d (List.mem_cons_of_mem _ hd)
    simp only [compL, h1, Option.bind_some, h2, Option.map_some]
    rfl
theorem compL_some {f : En → Dt → Option (Option Dt × En)} {ρ : En} (g : Dt → Option Dt) : ∀ ds : List Dt, (∀ d ∈ ds, f ρ d = some (g d, ρ)) → compL f ds ρ = some (ds.filterMap g, ρ)
  | [], _ => rfl
  | d :: ds, h => by
    have h1 := h d (List.mem_cons_self ..)
    have h2 := compL_some g ds fun d hd => h d (List.mem_cons_of_mem _ hd)
    simp only [compL, h1, Option.bind_some, h2, Option.map_some, List.filterMap_cons]
    cases g d <;> rfl
theorem allI_ints (ns : List Int) : allI (ns.map .int) = some ns := by
  induction ns with
  | nil => rfl
  | cons n ns ih =>
    unfold allI at ih ⊢
    simp only [List.map_cons, List.mapM_cons, ih]
    rfl
/-- a loop by turns: while the test stands -/
theorem whL_step {c : En → Option (Bool × En)} {f : En → Option Out} {n : Nat} {ρ ρ1 ρ2 : En} (hc : c ρ = some (true, ρ1)) (hf : f ρ1 = some (.nx ρ2)) : whL c f (n + 1) ρ = whL c f n ρ2 := by
  simp only [whL, hc, hf]
theorem whL_end {c : En → Option (Bool × En)} {f : En → Option Out} {n : Nat} {ρ ρ1 : En} (hc : c ρ = some (false, ρ1)) : whL c f (n + 1) ρ = some (.nx ρ1) := by
  simp only [whL, hc]
theorem mul_small {i j : Int} (h : j.natAbs < 2 ^ 64) : mulOk i j = true := by
  unfold mulOk
  simp [h]
theorem mul_small' {i j : Int} (h : i.natAbs < 2 ^ 64) : mulOk i j = true := by
  unfold mulOk
  simp [h]
end Mini

end
section
set_option Elab.async false
set_option linter.all false
set_option maxRecDepth 100000
set_option maxHeartbeats 4000000
/-! Plain, part 2: one statement, one rule. -/
namespace Mini
open PySem
section
variable {cl : CallS} {fuel : Nat} {ρ ρ1 ρ' : En} {rest : Ss}
theorem forL_nx {f : En → Dt → Option Out} {x : Dt} {xs : List Dt} (h : f ρ x = some (.nx ρ')) : forL f (x :: xs) ρ = forL f xs ρ' := by simp only [forL, h]
theorem forL_rt {f : En → Dt → Option Out} {x : Dt} {xs : List Dt} {r : Sl} (h : f ρ x = some (.rt r ρ')) : forL f (x :: xs) ρ = some (.rt r ρ') := by simp only [forL, h]
/-- a for's turn -/
abbrev turnF (cl : CallS) (fuel : Nat) (p : Pat) (b : Ss) : En → Dt → Option Out := fun ρ' x => (bind p (.sh, x) ρ').bind (exs cl fuel b)
theorem turn_ok {p : Pat} {b : Ss} {x : Dt} {o : Option Out} (h1 : bind p (.sh, x) ρ = some ρ1) (h2 : exs cl fuel b ρ1 = o) : turnF cl fuel p b ρ x = o := by
  show (bind p (.sh, x) ρ).bind (exs cl fuel b) = o
  rw [h1]
  exact h2
theorem exs_nil : exs cl fuel .nil ρ = some (.nx ρ) := rfl
theorem exs_asg {p : Pat} {e : E} {r : Sl × En} (h1 : ev cl e ρ = some r) (h2 : bind p r.1 r.2 = some ρ') : exs cl fuel (.cons (.asg p e) rest) ρ = exs cl fuel rest ρ' := by
  simp only [exs, ex, h1, Option.bind_some, h2, Option.map_some]
theorem exs_par {ps : Pats} {es : Es} {r : List Sl × En} (h1 : evP cl es ρ = some r) (h2 : bindP ps r.1 r.2 = some ρ') : exs cl fuel (.cons (.par ps es) rest) ρ = exs cl fuel rest ρ' := by
  simp only [exs, ex, h1, Option.bind_some, h2, Option.map_some]
theorem exs_exp {e : E} {r : Sl × En} (h1 : ev cl e ρ = some r) : exs cl fuel (.cons (.exp e) rest) ρ = exs cl fuel rest r.2 := by
  simp only [exs, ex, h1, Option.map_some]
theorem exs_ret {e : E} {r : Sl × En} (h1 : ev cl e ρ = some r) (h2 : okFl r.1.1 = true) : exs cl fuel (.cons (.ret e) rest) ρ = some (.rt r.1 r.2) := by
  simp only [exs, ex, h1, Option.bind_some, h2, if_true]
theorem exs_for {p : Pat} {it : It} {b : Ss} {ds : List Dt} (h1 : evI cl it ρ = some (ds, ρ1)) (h2 : forL (turnF cl fuel p b) ds ρ1 = some (.nx ρ')) : exs cl fuel (.cons (.for_ p it b) rest) ρ = exs cl fuel rest ρ' := by
  have e : ex cl fuel (.for_ p it b) ρ = some (.nx ρ') := by
    simp only [ex, h1, Option.bind_some]
    exact h2
  simp only [exs, e]
theorem exs_ifT {c : E} {a b : Ss} (h1 : tv cl c ρ = some (true, ρ1)) (h2 : exs cl fuel a ρ1 = some (.nx ρ')) : exs cl fuel (.cons (.ifs c a b) rest) ρ = exs cl fuel rest ρ' := by
  simp only [exs, ex, h1, Option.bind_some, if_true, h2]
theorem exs_ifF {c : E} {a b : Ss} (h1 : tv cl c ρ = some (false, ρ1)) (h2 : exs cl fuel b ρ1 = some (.nx ρ')) : exs cl fuel (.cons (.ifs c a b) rest) ρ = exs cl fuel rest ρ' := by
  simp only [exs, ex, h1, Option.bind_some, Bool.false_eq_true, if_false, h2]
theorem exs_ifR {c : E} {a b : Ss} {r : Sl} (h1 : tv cl c ρ = some (true, ρ1)) (h2 : exs cl fuel a ρ1 = some (.rt r ρ')) : exs cl fuel (.cons (.ifs c a b) rest) ρ = some (.rt r ρ') := by
  simp only [exs, ex, h1, Option.bind_some, if_true, h2]
theorem exs_whl {c : E} {b : Ss} (h : whL (tv cl c) (exs cl fuel b) fuel ρ = some (.nx ρ')) : exs cl fuel (.cons (.whl c b) rest) ρ = exs cl fuel rest ρ' := by
  simp only [exs, ex, h]
theorem run_rt {np nN : Nat} {body : Ss} {as : List Sl} {r : Sl} {os : List Dt} (h0 : (decide (as.length = np) && lentOk (asgSs body) 0 as) = true) (h1 : exs cl fuel body (as.map some ++ List.replicate (nN - as.length) none) = some (.rt r ρ')) (h2 : okFl r.1 = true) (h3 : outs ρ' 0 as = some os) :
    runDef cl fuel np nN body as = some (r, os) := by
  unfold runDef
  rw [if_pos h0, h1]
  show (if okFl r.1 = true then (outs ρ' 0 as).map (fun os => (r, os)) else none) = _
  rw [if_pos h2, h3]
  rfl
/-! ### expressions -/
theorem ev_bin_ {o : Bo} {a b : E} {r q : Sl × En} {z : Sl} (h1 : ev cl a ρ = some r) (h2 : (read? r.1.1 && okBo r.1.1 b) = true) (h3 : ev cl b r.2 = some q) (h4 : read? q.1.1 = true) (h5 : binD o r.1.2 q.1.2 = some z) : ev cl (.bin o a b) ρ = some (z, q.2) := by
  simp only [ev, h1, Option.bind_some, h2, if_true, h3, h4, h5, Option.map_some]
theorem ev_cmp_ {o : Co} {a b : E} {r q : Sl × En} {z : Bool} (h1 : ev cl a ρ = some r) (h2 : (read? r.1.1 && okBo r.1.1 b) = true) (h3 : ev cl b r.2 = some q) (h4 : read? q.1.1 = true) (h5 : cmpD o r.1.2 q.1.2 = some z) : ev cl (.cmp o a b) ρ = some ((.sh, .bool z), q.2) := by
  simp only [ev, h1, Option.bind_some, h2, if_true, h3, h4, h5, Option.map_some]
theorem ev_b1_ {f : B1} {a : E} {r : Sl × En} {z : Sl} (h1 : ev cl a ρ = some r) (h2 : read? r.1.1 = true) (h3 : b1D f r.1.2 = some z) : ev cl (.b1 f a) ρ = some (z, r.2) := by
  simp only [ev, h1, Option.bind_some, h2, if_true, h3, Option.map_some]
theorem keepS_ {r : Sl × En} (h : keep? r.1.1 = true) : keepS (some r) = some (r.1.2, r.2) := by
  simp only [keepS, Option.bind_some, h, if_true]
theorem ev_call_ {f : Str} {as : Es} {D : List (Dt ⊕ Nat)} {L : List Nat} {q : Sl × List Dt} (h1 : evA cl as ρ = some ((D, L), ρ1)) (h2 : (L.all (fun i => decide ((rd ρ1 i).map (·.1) = some .own ∨ (rd ρ1 i).map (·.1) = some .src)) && decide L.Nodup) = true)
    (h3 : cl f (D.map (argSl ρ1)) = some q) (h4 : okFl q.1.1 = true) (h5 : putIo ρ1 D q.2 = some ρ') : ev cl (.call f as) ρ = some (q.1, ρ') := by
  simp only [ev, h1, Option.bind_some]
  rw [if_pos h2]
  simp only [h3, Option.bind_some, h4, if_true, h5, Option.map_some]
theorem ev_comp_ {elt : E} {p : Pat} {it : It} {own : List Nat} {ds : List Dt} (g : Dt → Dt) (h1 : evI cl it ρ = some (ds, ρ1)) (h2 : ds.length ≤ lim) (h3 : ownFree ρ1 own = true)
    (h4 : ∀ d ∈ ds, ∃ ρ2 ρ3, bind p (.sh, d) (wipe ρ1 own) = some ρ2 ∧ keepS (ev cl elt ρ2) = some (g d, ρ3) ∧ wipe ρ3 own = wipe ρ1 own) : ev cl (.comp elt p it own) ρ = some ((.own, .list (ds.map g)), back ρ1 (wipe ρ1 own) own) := by
  have c := compL_map (f := fun ρ' x => (bind p (.sh, x) ρ').bind fun ρ'' => (keepS (ev cl elt ρ'')).map fun q => (some q.1, wipe q.2 own)) (ρ := wipe ρ1 own) g ds fun d hd => by
    obtain ⟨ρ2, ρ3, k1, k2, k3⟩ := h4 d hd
    simp only [k1, Option.bind_some, k2, Option.map_some, k3]
  simp only [ev, h1, Option.bind_some]
  rw [if_pos (by rw [decide_eq_true h2]; exact h3), c]
  rfl
theorem ev_compIf_ {elt c : E} {p : Pat} {it : It} {own : List Nat} {ds : List Dt} (g : Dt → Option Dt) (h1 : evI cl it ρ = some (ds, ρ1)) (h2 : ds.length ≤ lim) (h3 : ownFree ρ1 own = true)
    (h4 : ∀ d ∈ ds, ∃ ρ2 ρ3 t, bind p (.sh, d) (wipe ρ1 own) = some ρ2 ∧ tv cl c ρ2 = some (t, ρ3) ∧ if t = true then ∃ y ρ4, g d = some y ∧ keepS (ev cl elt ρ3) = some (y, ρ4) ∧ wipe ρ4 own = wipe ρ1 own else g d = none ∧ wipe ρ3 own = wipe ρ1 own) :
    ev cl (.compIf elt p it own c) ρ = some ((.own, .list (ds.filterMap g)), back ρ1 (wipe ρ1 own) own) := by
  have c := compL_some (f := fun ρ' x => (bind p (.sh, x) ρ').bind fun ρ'' => ((ev cl c ρ'').bind tst).bind fun t => if t.1 then (keepS (ev cl elt t.2)).map fun q => (some q.1, wipe q.2 own) else some (none, wipe t.2 own)) (ρ := wipe ρ1 own) g ds fun d hd => by
    obtain ⟨ρ2, ρ3, t, k1, k2, k3⟩ := h4 d hd
    have k2' : (ev cl c ρ2).bind tst = some (t, ρ3) := k2
    simp only [k1, Option.bind_some, k2']
    cases t with
    | true =>
      obtain ⟨y, ρ4, e1, e2, e3⟩ := (show ∃ y ρ4, g d = some y ∧ keepS (ev cl elt ρ3) = some (y, ρ4) ∧ wipe ρ4 own = wipe ρ1 own from by simpa using k3)
      simp only [if_true, e2, Option.map_some, e3, e1]
    | false =>
      obtain ⟨e1, e2⟩ := (show g d = none ∧ wipe ρ3 own = wipe ρ1 own from by simpa using k3)
      simp [e1, e2]
  simp only [ev, h1, Option.bind_some]
  rw [if_pos (by rw [decide_eq_true h2]; exact h3), c]
  rfl
theorem ev_tup_ {es : Es} {ds : List Dt} (h1 : evL cl es ρ = some (ds, ρ1)) (h2 : ds.length ≤ lim) : ev cl (.tup es) ρ = some ((.sh, .tuple ds), ρ1) := by
  simp only [ev, h1, Option.bind_some, h2, if_true]
theorem ev_lst_ {es : Es} {ds : List Dt} (h1 : evL cl es ρ = some (ds, ρ1)) (h2 : ds.length ≤ lim) : ev cl (.lst es) ρ = some ((.own, .list ds), ρ1) := by
  simp only [ev, h1, Option.bind_some, h2, if_true]
theorem evL_cons_ {e : E} {r : Es} {x : Dt} {ds : List Dt} (h1 : keepS (ev cl e ρ) = some (x, ρ1)) (h2 : evL cl r ρ1 = some (ds, ρ')) : evL cl (.cons e r) ρ = some (x :: ds, ρ') := by
  simp only [evL, h1, Option.bind_some, h2, Option.map_some]
theorem evL_star_ {e : E} {r : Es} {x : Sl × En} {ds es : List Dt} (h1 : ev cl e ρ = some x) (h2 : read? x.1.1 = true) (h3 : seqOf x.1.2 = some ds) (h4 : evL cl r x.2 = some (es, ρ')) : evL cl (.star e r) ρ = some (ds ++ es, ρ') := by
  simp only [evL, h1, Option.bind_some, h2, if_true, h3, h4, Option.map_some]
theorem evP_cons_ {e : E} {r : Es} {x : Sl × En} {q : List Sl × En} (h1 : ev cl e ρ = some x) (h2 : okFl x.1.1 = true) (h3 : evP cl r x.2 = some q) : evP cl (.cons e r) ρ = some (x.1 :: q.1, q.2) := by
  simp only [evP, h1, Option.bind_some, h2, if_true, h3, Option.map_some]
theorem evP_nil_ : evP cl .nil ρ = some ([], ρ) := rfl
theorem keep_ {e : E} {r : Sl × En} (h1 : ev cl e ρ = some r) (h : keep? r.1.1 = true) : keepS (ev cl e ρ) = some (r.1.2, r.2) := by
  rw [h1]
  exact keepS_ h
theorem flat_rep (k : Nat) (d : Dt) : (List.replicate k [d]).flatten = List.replicate k d := by
  induction k with
  | zero => rfl
  | succ k ih => rw [List.replicate_succ, List.flatten_cons, ih]; rfl
theorem tv_ {e : E} {r : Sl × En} {t : Bool} (h1 : ev cl e ρ = some r) (h2 : read? r.1.1 = true) (h3 : tru r.1.2 = some t) : tv cl e ρ = some (t, r.2) := by
  unfold tv tst
  rw [h1]
  show (if read? r.1.1 = true then (tru r.1.2).map (fun b => (b, r.2)) else none) = _
  rw [if_pos h2, h3]
  rfl
theorem ev_idx_ {a b : E} {r q : Sl × En} {z : Dt} (h1 : ev cl a ρ = some r) (h2 : (read? r.1.1 && okBo r.1.1 b) = true) (h3 : ev cl b r.2 = some q) (h4 : read? q.1.1 = true) (h5 : idxD r.1.2 q.1.2 = some z) : ev cl (.idx a b) ρ = some ((.sh, z), q.2) := by
  simp only [ev, h1, Option.bind_some, h2, if_true, h3, h4, h5, Option.map_some]
theorem ev_andT {a b : E} {x y : Dt} (h1 : keepS (ev cl a ρ) = some (x, ρ1)) (h2 : tru x = some true) (h3 : keepS (ev cl b ρ1) = some (y, ρ')) : ev cl (.and a b) ρ = some ((.sh, y), ρ') := by
  simp only [ev, h1, Option.bind_some, h2, if_true, h3, Option.map_some]
theorem ev_andF {a b : E} {x : Dt} (h1 : keepS (ev cl a ρ) = some (x, ρ1)) (h2 : tru x = some false) : ev cl (.and a b) ρ = some ((.sh, x), ρ1) := by
  simp only [ev, h1, Option.bind_some, h2, Bool.false_eq_true, if_false]
theorem ev_orT {a b : E} {x : Dt} (h1 : keepS (ev cl a ρ) = some (x, ρ1)) (h2 : tru x = some true) : ev cl (.or a b) ρ = some ((.sh, x), ρ1) := by
  simp only [ev, h1, Option.bind_some, h2, if_true]
theorem ev_orF {a b : E} {x y : Dt} (h1 : keepS (ev cl a ρ) = some (x, ρ1)) (h2 : tru x = some false) (h3 : keepS (ev cl b ρ1) = some (y, ρ')) : ev cl (.or a b) ρ = some ((.sh, y), ρ') := by
  simp only [ev, h1, Option.bind_some, h2, Bool.false_eq_true, if_false, h3, Option.map_some]
theorem ev_b2_ {f : B2} {a b : E} {x y : Dt} {z : Sl} (h1 : keepS (ev cl a ρ) = some (x, ρ1)) (h2 : keepS (ev cl b ρ1) = some (y, ρ')) (h3 : b2D f x y = some z) : ev cl (.b2 f a b) ρ = some (z, ρ') := by
  simp only [ev, h1, Option.bind_some, h2, h3, Option.map_some]
theorem exs_setL {i : Nat} {k e : E} {x : Dt} {j : Int} {xs : List Dt} {n : Nat} {ρ2 : En} (h1 : keepS (ev cl e ρ) = some (x, ρ1)) (h2 : (rd ρ1 i).isSome = true) (h3 : keepS (ev cl k ρ1) = some (.int j, ρ2)) (h4 : rd ρ2 i = some (.own, .list xs)) (h5 : L2.ixN xs.length j = some n) :
    exs cl fuel (.cons (.setx i k e) rest) ρ = exs cl fuel rest (ρ2.set i (some (.own, .list (xs.set n x)))) := by
  simp only [exs, ex, h1, Option.bind_some, h2, if_true, h3, h4, h5, Option.map_some]
end
end Mini

end
section
set_option Elab.async false
set_option linter.all false
set_option maxRecDepth 100000
set_option maxHeartbeats 4000000
/-! Mini, part 23: the head of a large program: fewer places looked at, the run's three sights apart. -/
namespace Mini
open PySem PySem.W PySem.Calls PySem.Spec PyProof.Rows L2 HandSHeadRun
def refsX (g : Addr → Option Obj) : List Addr := match g mainGlobals with
  | some o => He.refsD o
  | none => []
def codesX (g : Addr → Option Obj) (as : List Addr) : List Addr := as.flatMap fun a => match g a with
  | some ⟨_, _, .func fd, _⟩ => He.refV fd.code
  | _ => []
/-- the module's names, the functions among them, their code -/
def asX (g : Addr → Option Obj) : List Addr := (fun l => mainGlobals :: (l ++ codesX g l)) (refsX g)
def hookX (fa : List He.Fa) (fn : List He.DefD) : PySem.W.Hook where
  α := He.AlD
  obs := fun s => He.obsD fa fn (He.frG s.heap.get? (asX s.heap.get?))
  val := fun _ => He.valD fn
  says := fun _ h => ∃ K : PySem.W.Frag, K.In h ∧ He.SaysD fa fn K
  of := fun _ _ e => ⟨_, He.frG_in, e⟩
  keeps := fun _ _ _ ⟨K, hK, c⟩ k => ⟨K, PySem.W.Frag.In.keeps hK k, c⟩
def obX (fa : List He.Fa) (fn : List He.DefD) (s : PySem.W.SharedT) : He.AlD := He.obsD fa fn (He.frG (getT s) (asX (getT s)))
theorem obX_eq (fa : List He.Fa) (fn : List He.DefD) (s : PySem.W.SharedT) : obX fa fn s = (hookX fa fn).obs s.abs := by
  have e : getT s = s.abs.heap.get? := funext (getT_eq s)
  show He.obsD fa fn (He.frG (getT s) (asX (getT s))) = He.obsD fa fn (He.frG s.abs.heap.get? (asX s.abs.heap.get?))
  rw [e]
/-- the run from the boot -/
noncomputable def stX (r : OpenRow) (M : Nat) (w : World) (os : OsState) : Option SharedT := endF (stepQ (denQ tabQ) r.prog w) M r.prog w os
theorem runX {r : OpenRow} {q : Program} {fa : List He.Fa} {fn : List He.DefD} {M : Nat} {loose : List PySem.Str} {w : World}
    (c1 : ∀ os, (stX r M w os).map (fun s => looksF r.prog (boot_heap w.params) s.abs) = some true)
    (c2 : ∀ os, (stX r M w os).map (fun s => seenQ q loose (importedModules r.prog.main.body) (fun s => xlAt q [] s && recOk r.toRowW.records s) s.abs) = some (openGood q loose))
    (c3 : ∀ os, (stX r M w os).map (obX fa fn) = some (He.valD fn)) : RunEq r q (hookX fa fn) (obX fa fn) M loose w := by
  intro os
  have k1 := c1 os
  have k2 := c2 os
  have k3 := c3 os
  unfold stX at k1 k2 k3
  cases e : endF (stepQ (denQ tabQ) r.prog w) M r.prog w os with
  | none => rw [e] at k1; cases k1
  | some s =>
    rw [e] at k1 k2 k3
    have k1' := Option.some.inj k1
    have k2' := Option.some.inj k2
    have k3' := Option.some.inj k3
    show some (looksF r.prog (boot_heap w.params) s.abs, seenQ q loose (importedModules r.prog.main.body) (fun s => xlAt q [] s && recOk r.toRowW.records s) s.abs, obX fa fn s) = some (true, openGood q loose, He.valD fn)
    rw [← k2', ← k3']
    dsimp only at k1'
    rw [k1']
end Mini

end
section
set_option Elab.async false
set_option linter.all false
set_option maxRecDepth 100000
set_option maxHeartbeats 4000000
/-! Mir: typed values, and the interpreter's steps on them. -/
namespace Mir
open PySem Mini
/-! ### how typed values stand as data -/
section
variable {α β γ δ ε ζ : Type}
abbrev eT (f : α → Dt) (xs : List α) : Dt := .tuple (xs.map f)
abbrev eL (f : α → Dt) (xs : List α) : Dt := .list (xs.map f)
abbrev eP1 (f : α → Dt) (p : α) : Dt := .tuple [f p]
abbrev eP2 (f : α → Dt) (g : β → Dt) (p : α × β) : Dt := .tuple [f p.1, g p.2]
abbrev eP3 (f : α → Dt) (g : β → Dt) (h : γ → Dt) (p : α × β × γ) : Dt := .tuple [f p.1, g p.2.1, h p.2.2]
abbrev eP4 (f : α → Dt) (g : β → Dt) (h : γ → Dt) (i : δ → Dt) (p : α × β × γ × δ) : Dt := .tuple [f p.1, g p.2.1, h p.2.2.1, i p.2.2.2]
abbrev eP5 (f : α → Dt) (g : β → Dt) (h : γ → Dt) (i : δ → Dt) (j : ε → Dt) (p : α × β × γ × δ × ε) : Dt := .tuple [f p.1, g p.2.1, h p.2.2.1, i p.2.2.2.1, j p.2.2.2.2]
abbrev eN (_ : Unit) : Dt := .none
def eO (f : α → Dt) : Option α → Dt
  | none => .none
  | some a => f a
abbrev eD (f : α → Dt) (g : β → Dt) (d : List (α × β)) : Dt := .dict (d.map fun p => (f p.1, g p.2))
/-- the draws' record -/
abbrev Src := List Int × Int × Int × Int
abbrev eS (s : Src) : Dt := srcD s.1 s.2.1 s.2.2.1 s.2.2.2
abbrev sS (d : Dt) : Sl := (.sh, d)
abbrev oS (d : Dt) : Sl := (.own, d)
abbrev rS (d : Dt) : Sl := (.src, d)
end
/-! ### operations with their limits -/
def mulI (i j : Int) : Option Int := if mulOk i j = true then some (i * j) else none
def fdivI (i j : Int) : Option Int := if divOk j = true then some (i.fdiv j) else none
def modI (i j : Int) : Option Int := if j ≠ 0 then some (i.fmod j) else none
def shlI (i j : Int) : Option Int := if 0 ≤ j ∧ j ≤ 1000000 ∧ i.natAbs < 2 ^ 64 then some (i * 2 ^ j.toNat) else none
def powI (i j : Int) : Option Int := if 0 ≤ j ∧ j ≤ 1000000 ∧ i.natAbs < 2 ^ 64 then some (i ^ j.toNat) else none
def catL {α : Type} (xs ys : List α) : Option (List α) := if xs.length + ys.length ≤ lim then some (xs ++ ys) else none
def repL {α : Type} (xs : List α) (k : Int) : Option (List α) := if xs.length * k.toNat ≤ lim ∧ k.natAbs < 2 ^ 60 then some (List.replicate k.toNat xs).flatten else none
def limL {α : Type} (xs : List α) : Option (List α) := if xs.length ≤ lim then some xs else none
def rng (lo hi : Int) : List Int := (List.range (hi - lo).toNat).map fun i => lo + (i : Nat)
def rngI (lo hi : Int) : Option (List Int) := if (bnd62 lo && bnd62 hi) = true then some (rng lo hi) else none
def rng1I (hi : Int) : Option (List Int) := if bnd62 hi = true then some (rng 0 hi) else none
def rng3 (lo hi k : Int) : List Int := (List.range (Builtin.Range.rangeSize lo hi k).toNat).map fun i => lo + (i : Nat) * k
def rng3I (lo hi k : Int) : Option (List Int) := if (decide (k ≠ 0) && decide (k.natAbs < 2 ^ 20) && Builtin.Range.small lo hi k && decide (0 ≤ Builtin.Range.rangeSize lo hi k)) = true then some (rng3 lo hi k) else none
def lrgI (lo hi : Int) : Option (List Int) := if (bnd62 lo && bnd62 hi && decide ((hi - lo).toNat ≤ lim)) = true then some (rng lo hi) else none
def atL {α : Type} (xs : List α) (i : Int) : Option α := L2.atI xs i
def setL {α : Type} (xs : List α) (i : Int) (x : α) : Option (List α) := (L2.ixN xs.length i).map fun n => xs.set n x
def popL {α : Type} (xs : List α) : Option (α × List α) := xs.getLast?.map fun x => (x, xs.dropLast)
def appL {α : Type} (xs : List α) (x : α) : Option (List α) := if xs.length < lim then some (xs ++ [x]) else none
def enumT {α : Type} (xs : List α) : List (Int × α) := xs.zipIdx.map fun p => ((p.2 : Nat), p.1)
def mapC {α β : Type} (xs : List α) (g : α → Option β) : Option (List β) := if xs.length ≤ lim then xs.mapM g else none
def filC {α β : Type} (xs : List α) (c : α → Option Bool) (g : α → Option β) : Option (List β) := if xs.length ≤ lim then (xs.mapM fun x => (c x).bind fun b => if b = true then (g x).map some else some none).map fun ys => ys.filterMap id else none
def reprC (d : Dt) : Option Str := if shows d = true then some d.shown else none
def maxL : List Int → Option Int
  | [] => none
  | n :: ns => some (ns.foldl max n)
def minL : List Int → Option Int
  | [] => none
  | n :: ns => some (ns.foldl min n)
def absI (i : Int) : Int := if i < 0 then -i else i
def max2 (i j : Int) : Int := if j > i then j else i
def min2 (i j : Int) : Int := if j < i then j else i
def b2i (b : Bool) : Int := if b then 1 else 0
def dGet {κ τ : Type} [DecidableEq κ] (d : List (κ × τ)) (k : κ) : Option τ := (d.find? fun p => decide (p.1 = k)).map (·.2)
def dPut {κ τ : Type} [DecidableEq κ] (d : List (κ × τ)) (k : κ) (v : τ) : List (κ × τ) := if d.any (fun p => decide (p.1 = k)) = true then d.map (fun p => if decide (p.1 = k) = true then (p.1, v) else p) else d ++ [(k, v)]
def dPutI {κ τ : Type} [DecidableEq κ] (d : List (κ × τ)) (k : κ) (v : τ) : Option (List (κ × τ)) := if d.length < lim then some (dPut d k v) else none
def dOf {κ τ : Type} [DecidableEq κ] (ps : List (κ × τ)) : List (κ × τ) := ps.foldl (fun d p => dPut d p.1 p.2) []
def forR {σ α ρ : Type} (g : σ → α → Option (σ ⊕ ρ)) : List α → σ → Option (σ ⊕ ρ)
  | [], s => some (.inl s)
  | x :: xs, s => match g s x with
    | some (.inl s') => forR g xs s'
    | some (.inr r) => some (.inr r)
    | none => none
def whileT {σ : Type} (c : σ → Option Bool) (g : σ → Option σ) : Nat → σ → Option σ
  | 0, _ => none
  | n + 1, s => match c s with
    | some false => some s
    | some true => (g s).bind (whileT c g n)
    | none => none
/-! ### the runs -/
theorem bindS {α β : Type} {o : Option α} {f : α → Option β} {r : β} (h : o.bind f = some r) : ∃ a, o = some a ∧ f a = some r := Option.bind_eq_some_iff.mp h
theorem iteS {α : Type} {b : Prop} [Decidable b] {o : α} {r : α} (h : (if b then some o else none) = some r) : b ∧ o = r := by
  by_cases hb : b
  · rw [if_pos hb] at h; cases h; exact ⟨hb, rfl⟩
  · rw [if_neg hb] at h; cases h
/-- the statements come to an end that P holds of -/
def Ok (c : CallS) (n : Nat) (b : Ss) (ρ : En) (P : Out → Prop) : Prop := ∃ o, exs c n b ρ = some o ∧ P o
/-- what follows -/
def Sq (c : CallS) (n : Nat) (rest : Ss) (P : Out → Prop) : Out → Prop
  | .nx ρ' => Ok c n rest ρ' P
  | o => P o
/-- it falls through, to slots that R holds of -/
def Nx (R : En → Prop) : Out → Prop
  | .nx ρ' => R ρ'
  | _ => False
def Rt (s : Sl) (R : En → Prop) : Out → Prop
  | .rt r ρ' => r = s ∧ R ρ'
  | _ => False
section
variable {c : CallS} {n : Nat} {rest A B b : Ss} {ρ ρ1 ρ2 ρ' : En} {P : Out → Prop} {R : En → Prop} {e f e1 e2 e3 : E} {p : Pat} {it : It}
theorem Ok.nil (h : P (.nx ρ)) : Ok c n .nil ρ P := ⟨_, rfl, h⟩
theorem Ok.asg {r : Sl × En} (h1 : ev c e ρ = some r) (h2 : bind p r.1 r.2 = some ρ') (h : Ok c n rest ρ' P) : Ok c n (.cons (.asg p e) rest) ρ P := by
  obtain ⟨o, k1, k2⟩ := h
  exact ⟨o, by rw [exs_asg h1 h2]; exact k1, k2⟩
theorem Ok.par {ps : Pats} {es : Es} {r : List Sl × En} (h1 : evP c es ρ = some r) (h2 : bindP ps r.1 r.2 = some ρ') (h : Ok c n rest ρ' P) : Ok c n (.cons (.par ps es) rest) ρ P := by
  obtain ⟨o, k1, k2⟩ := h
  exact ⟨o, by rw [exs_par h1 h2]; exact k1, k2⟩
theorem Ok.exp {r : Sl × En} (h1 : ev c e ρ = some r) (h : Ok c n rest r.2 P) : Ok c n (.cons (.exp e) rest) ρ P := by
  obtain ⟨o, k1, k2⟩ := h
  exact ⟨o, by rw [exs_exp h1]; exact k1, k2⟩
theorem Ok.ret {r : Sl × En} (h1 : ev c e ρ = some r) (h2 : okFl r.1.1 = true) (h : P (.rt r.1 r.2)) : Ok c n (.cons (.ret e) rest) ρ P := ⟨_, exs_ret h1 h2, h⟩
theorem Ok.ifT (h1 : tv c e ρ = some (true, ρ1)) (h : Ok c n A ρ1 (Sq c n rest P)) : Ok c n (.cons (.ifs e A B) rest) ρ P := by
  obtain ⟨o, k1, k2⟩ := h
  have k : ex c n (.ifs e A B) ρ = some o := by simp only [ex, h1, Option.bind_some, if_true]; exact k1
  cases o with
  | nx ρ2 => obtain ⟨o', k3, k4⟩ := k2; exact ⟨o', by simp only [exs, k]; exact k3, k4⟩
  | _ => exact ⟨_, by simp only [exs, k], k2⟩
theorem Ok.ifF (h1 : tv c e ρ = some (false, ρ1)) (h : Ok c n B ρ1 (Sq c n rest P)) : Ok c n (.cons (.ifs e A B) rest) ρ P := by
  obtain ⟨o, k1, k2⟩ := h
  have k : ex c n (.ifs e A B) ρ = some o := by simp only [ex, h1, Option.bind_some, Bool.false_eq_true, if_false]; exact k1
  cases o with
  | nx ρ2 => obtain ⟨o', k3, k4⟩ := k2; exact ⟨o', by simp only [exs, k]; exact k3, k4⟩
  | _ => exact ⟨_, by simp only [exs, k], k2⟩
theorem Ok.mono {P' : Out → Prop} (h : Ok c n b ρ P) (w : ∀ o, P o → P' o) : Ok c n b ρ P' := by
  obtain ⟨o, k1, k2⟩ := h
  exact ⟨o, k1, w o k2⟩
/-- an if, then the rest, from slots that R holds of -/
theorem Ok.join (R : En → Prop) (br : Ok c n (.cons (.ifs e A B) .nil) ρ (Nx R)) (h : ∀ ρ', R ρ' → Ok c n rest ρ' P) : Ok c n (.cons (.ifs e A B) rest) ρ P := by
  obtain ⟨o, k1, k2⟩ := br
  cases o with
  | nx ρ' =>
    obtain ⟨o', k3, k4⟩ := h ρ' k2
    have k : ex c n (.ifs e A B) ρ = some (.nx ρ') := by
      simp only [exs] at k1
      cases hx : ex c n (.ifs e A B) ρ with
      | none => rw [hx] at k1; cases k1
      | some o =>
        rw [hx] at k1
        cases o <;> first | exact k1 | cases k1
    exact ⟨o', by simp only [exs, k]; exact k3, k4⟩
  | _ => exact k2.elim
theorem Ok.for_ {ds : List Dt} {o : Out} (h1 : evI c it ρ = some (ds, ρ1)) (h2 : forL (turnF c n p b) ds ρ1 = some o) (h : Sq c n rest P o) : Ok c n (.cons (.for_ p it b) rest) ρ P := by
  have k : ex c n (.for_ p it b) ρ = some o := by
    simp only [ex, h1, Option.bind_some]
    exact h2
  cases o with
  | nx ρ2 => obtain ⟨o', k3, k4⟩ := h; exact ⟨o', by simp only [exs, k]; exact k3, k4⟩
  | _ => exact ⟨_, by simp only [exs, k], h⟩
theorem Ok.whl (h1 : whL (tv c e) (exs c n b) n ρ = some (.nx ρ')) (h : Ok c n rest ρ' P) : Ok c n (.cons (.whl e b) rest) ρ P := by
  obtain ⟨o, k1, k2⟩ := h
  exact ⟨o, by rw [exs_whl h1]; exact k1, k2⟩
theorem Ok.setL {i : Nat} {x : Dt} {j : Int} {xs : List Dt} {m : Nat} (h1 : keepS (ev c e ρ) = some (x, ρ1)) (h2 : (rd ρ1 i).isSome = true) (h3 : keepS (ev c f ρ1) = some (.int j, ρ2)) (h4 : rd ρ2 i = some (.own, .list xs)) (h5 : L2.ixN xs.length j = some m)
    (h6 : ρ2.set i (some (.own, .list (xs.set m x))) = ρ') (h : Ok c n rest ρ' P) : Ok c n (.cons (.setx i f e) rest) ρ P := by
  obtain ⟨o, k1, k2⟩ := h
  exact ⟨o, by rw [exs_setL h1 h2 h3 h4 h5, h6]; exact k1, k2⟩
theorem Ok.setD {i : Nat} {x k : Dt} {kvs : List (Dt × Dt)} (h1 : keepS (ev c e ρ) = some (x, ρ1)) (h2 : (rd ρ1 i).isSome = true) (h3 : keepS (ev c f ρ1) = some (k, ρ2)) (h4 : rd ρ2 i = some (.own, .dict kvs)) (h5 : (isKey k && decide (kvs.length < lim)) = true)
    (h6 : ρ2.set i (some (.own, .dict (kvPut kvs k x))) = ρ') (h : Ok c n rest ρ' P) : Ok c n (.cons (.setx i f e) rest) ρ P := by
  obtain ⟨o, k1, k2⟩ := h
  refine ⟨o, ?_, k2⟩
  have : ex c n (.setx i f e) ρ = some (.nx ρ') := by
    simp only [ex, h1, Option.bind_some, h2, if_true, h3, h4, h5, h6]
  simp only [exs, this]
  exact k1
theorem Ok.setf {i : Nat} {k : Str} {v : Int} {d d' : Dt} (h1 : keepS (ev c e ρ) = some (.int v, ρ1)) (h2 : rd ρ1 i = some (.src, d)) (h3 : putF k v d = some d') (h6 : ρ1.set i (some (.src, d')) = ρ') (h : Ok c n rest ρ' P) : Ok c n (.cons (.setf i k e) rest) ρ P := by
  obtain ⟨o, k1, k2⟩ := h
  refine ⟨o, ?_, k2⟩
  have : ex c n (.setf i k e) ρ = some (.nx ρ') := by
    simp only [ex, h1, Option.bind_some, h2, h3, Option.map_some, h6]
  simp only [exs, this]
  exact k1
theorem Ok.pull {i j : Nat} {d d' : Dt} (h1 : rd ρ i = some (.src, d)) (h2 : rd ρ j = none) (h3 : (decide (i ≠ j) && decide (j < ρ.length)) = true) (h4 : pullD d = some d') (h6 : ρ.set i (some (.src, d')) = ρ') (h : Ok c n rest ρ' P) : Ok c n (.pull i j rest) ρ P := by
  obtain ⟨o, k1, k2⟩ := h
  refine ⟨o, ?_, k2⟩
  simp only [exs, h1, h2, h3, if_true, h4, Option.bind_some, h6]
  exact k1
theorem run_ok {np nN : Nat} {body : Ss} {as : List Sl} {r : Sl} {os : List Dt} (h0 : (decide (as.length = np) && lentOk (asgSs body) 0 as) = true) (h2 : okFl r.1 = true) (h1 : Ok c n body (as.map some ++ List.replicate (nN - as.length) none) (Rt r fun ρ' => outs ρ' 0 as = some os)) :
    runDef c n np nN body as = some (r, os) := by
  obtain ⟨o, k1, k2⟩ := h1
  cases o with
  | rt s ρ' =>
    obtain ⟨rfl, k2⟩ := k2
    exact run_rt h0 k1 h2 k2
  | _ => exact k2.elim
/-! ### loops -/
theorem for_ok {σ α : Type} {F : En → Dt → Option Out} (enc : α → Dt) (g : σ → α → Option σ) (R : σ → En → Prop) (step : ∀ s x s' ρ, R s ρ → g s x = some s' → ∃ ρ', F ρ (enc x) = some (.nx ρ') ∧ R s' ρ') :
    ∀ (xs : List α) (s s' : σ) (ρ : En), R s ρ → xs.foldlM g s = some s' → ∃ ρ', forL F (xs.map enc) ρ = some (.nx ρ') ∧ R s' ρ'
  | [], s, s', ρ, h, e => by
    cases e
    exact ⟨ρ, rfl, h⟩
  | x :: xs, s, s', ρ, h, e => by
    rw [List.foldlM_cons] at e
    obtain ⟨s1, e1, e2⟩ := bindS e
    obtain ⟨ρ1, k1, k2⟩ := step s x s1 ρ h e1
    obtain ⟨ρ2, k3, k4⟩ := for_ok enc g R step xs s1 s' ρ1 k2 e2
    exact ⟨ρ2, by rw [List.map_cons, forL_nx k1]; exact k3, k4⟩
/-- a loop that may return -/
theorem forR_ok {σ α τ : Type} {F : En → Dt → Option Out} (enc : α → Dt) (g : σ → α → Option (σ ⊕ τ)) (R : σ → En → Prop) (T : τ → Out → Prop)
    (step : ∀ s x o ρ, R s ρ → g s x = some o → ∃ q, F ρ (enc x) = some q ∧ (match o with | .inl s' => Nx (R s') q | .inr t => T t q ∧ ∃ r ρ', q = .rt r ρ')) :
    ∀ (xs : List α) (s : σ) (o : σ ⊕ τ) (ρ : En), R s ρ → forR g xs s = some o → ∃ q, forL F (xs.map enc) ρ = some q ∧ (match o with | .inl s' => Nx (R s') q | .inr t => T t q ∧ ∃ r ρ', q = .rt r ρ')
  | [], s, o, ρ, h, e => by
    cases e
    exact ⟨.nx ρ, rfl, h⟩
  | x :: xs, s, o, ρ, h, e => by
    unfold forR at e
    cases hg : g s x with
    | none => rw [hg] at e; cases e
    | some o1 =>
      rw [hg] at e
      obtain ⟨q, k1, k2⟩ := step s x o1 ρ h hg
      cases o1 with
      | inl s1 =>
        cases q with
        | nx ρ1 =>
          obtain ⟨q2, k3, k4⟩ := forR_ok enc g R T step xs s1 o ρ1 k2 e
          exact ⟨q2, by rw [List.map_cons, forL_nx k1]; exact k3, k4⟩
        | _ => exact k2.elim
      | inr t =>
        cases e
        obtain ⟨k2, r, ρ', rfl⟩ := k2
        exact ⟨_, by rw [List.map_cons, forL_rt k1], k2, r, ρ', rfl⟩
theorem while_ok {σ : Type} {C : En → Option (Bool × En)} {F : En → Option Out} (cc : σ → Option Bool) (g : σ → Option σ) (R : σ → En → Prop) (hc : ∀ s b ρ, R s ρ → cc s = some b → ∃ ρ', C ρ = some (b, ρ') ∧ R s ρ') (step : ∀ s s' ρ, R s ρ → cc s = some true → g s = some s' → ∃ ρ', F ρ = some (.nx ρ') ∧ R s' ρ') :
    ∀ (m : Nat) (s s' : σ) (ρ : En), R s ρ → whileT cc g m s = some s' → ∃ ρ', whL C F m ρ = some (.nx ρ') ∧ R s' ρ'
  | 0, s, s', ρ, h, e => by cases e
  | m + 1, s, s', ρ, h, e => by
    unfold whileT at e
    cases hb : cc s with
    | none => rw [hb] at e; cases e
    | some b =>
      rw [hb] at e
      obtain ⟨ρ1, k1, k2⟩ := hc s b ρ h hb
      cases b with
      | false => cases e; exact ⟨ρ1, whL_end k1, k2⟩
      | true =>
        obtain ⟨s1, e1, e2⟩ := bindS e
        obtain ⟨ρ2, k3, k4⟩ := step s s1 ρ1 k2 hb e1
        obtain ⟨ρ3, k5, k6⟩ := while_ok cc g R hc step m s1 s' ρ2 k4 e2
        exact ⟨ρ3, by rw [whL_step k1 k3]; exact k5, k6⟩
theorem turn_ok' {x : Dt} {Q : Out → Prop} (h1 : bind p (.sh, x) ρ = some ρ1) (h2 : Ok c n b ρ1 Q) : ∃ o, turnF c n p b ρ x = some o ∧ Q o := by
  obtain ⟨o, k1, k2⟩ := h2
  exact ⟨o, turn_ok h1 k1, k2⟩
theorem nx_of {o : Option Out} {R : En → Prop} (h : ∃ q, o = some q ∧ Nx R q) : ∃ ρ', o = some (.nx ρ') ∧ R ρ' := by
  obtain ⟨q, k1, k2⟩ := h
  cases q with
  | nx ρ' => exact ⟨ρ', k1, k2⟩
  | _ => exact k2.elim
/-! ### expressions -/
theorem xV {i : Nat} {d : Dt} (h : rd ρ i = some (.sh, d)) : ev c (.v i) ρ = some ((.sh, d), ρ) := by simp only [ev, h]
theorem xVo {i : Nat} {d : Dt} (h : rd ρ i = some (.own, d)) : ev c (.v i) ρ = some ((.bo i, d), ρ) := by simp only [ev, h]
theorem xSh {i : Nat} {d : Dt} (h : rd ρ i = some (.sh, d)) : ev c (.sh i) ρ = some ((.sh, d), ρ) := by simp only [ev, h]
theorem xShO {i : Nat} {d : Dt} (h : rd ρ i = some (.own, d)) (h' : ρ.set i (some (.sh, d)) = ρ') : ev c (.sh i) ρ = some ((.sh, d), ρ') := by simp only [ev, h, h']
theorem xMv {i : Nat} {d : Dt} (h : rd ρ i = some (.sh, d)) : ev c (.mv i) ρ = some ((.sh, d), ρ) := by simp only [ev, h]
theorem xMvO {i : Nat} {d : Dt} (h : rd ρ i = some (.own, d)) (h' : ρ.set i none = ρ') : ev c (.mv i) ρ = some ((.own, d), ρ') := by simp only [ev, h, h']
theorem xMvS {i : Nat} {d : Dt} (h : rd ρ i = some (.src, d)) (h' : ρ.set i none = ρ') : ev c (.mv i) ρ = some ((.src, d), ρ') := by simp only [ev, h, h']
theorem xI {i : Int} : ev c (.int i) ρ = some ((.sh, .int i), ρ) := rfl
theorem xS {i : Str} : ev c (.str i) ρ = some ((.sh, .str i), ρ) := rfl
theorem xB {i : Bool} : ev c (.bl i) ρ = some ((.sh, .bool i), ρ) := rfl
theorem xN : ev c .non ρ = some ((.sh, .none), ρ) := rfl
theorem xG {x : Str} {d : Dt} : ev c (.gl x d) ρ = some ((.sh, d), ρ) := rfl
theorem kp {d : Dt} {fl : Fl} (h : ev c e ρ = some ((fl, d), ρ1)) (hk : keep? fl = true := by rfl) : keepS (ev c e ρ) = some (d, ρ1) := by
  rw [h]
  exact keepS_ hk
section
variable {i j : Int} {fl fl' : Fl}
theorem bAdd (h1 : ev c e ρ = some ((fl, .int i), ρ1)) (h2 : ev c f ρ1 = some ((fl', .int j), ρ2)) (k1 : (read? fl && okBo fl f) = true := by rfl) (k2 : read? fl' = true := by rfl) : ev c (.bin .add e f) ρ = some ((.sh, .int (i + j)), ρ2) := ev_bin_ h1 k1 h2 k2 rfl
theorem bSub (h1 : ev c e ρ = some ((fl, .int i), ρ1)) (h2 : ev c f ρ1 = some ((fl', .int j), ρ2)) (k1 : (read? fl && okBo fl f) = true := by rfl) (k2 : read? fl' = true := by rfl) : ev c (.bin .sub e f) ρ = some ((.sh, .int (i - j)), ρ2) := ev_bin_ h1 k1 h2 k2 rfl
theorem bMul {m : Int} (h : mulI i j = some m) (h1 : ev c e ρ = some ((fl, .int i), ρ1)) (h2 : ev c f ρ1 = some ((fl', .int j), ρ2)) (k1 : (read? fl && okBo fl f) = true := by rfl) (k2 : read? fl' = true := by rfl) : ev c (.bin .mul e f) ρ = some ((.sh, .int m), ρ2) := by
  unfold mulI at h
  obtain ⟨h', rfl⟩ := iteS h
  exact ev_bin_ h1 k1 h2 k2 (if_pos h')
theorem bMulK (h : mulOk i j = true) (h1 : ev c e ρ = some ((fl, .int i), ρ1)) (h2 : ev c f ρ1 = some ((fl', .int j), ρ2)) (k1 : (read? fl && okBo fl f) = true := by rfl) (k2 : read? fl' = true := by rfl) : ev c (.bin .mul e f) ρ = some ((.sh, .int (i * j)), ρ2) :=
  ev_bin_ h1 k1 h2 k2 (if_pos h)
theorem bDiv {m : Int} (h : fdivI i j = some m) (h1 : ev c e ρ = some ((fl, .int i), ρ1)) (h2 : ev c f ρ1 = some ((fl', .int j), ρ2)) (k1 : (read? fl && okBo fl f) = true := by rfl) (k2 : read? fl' = true := by rfl) : ev c (.bin .fdiv e f) ρ = some ((.sh, .int m), ρ2) := by
  unfold fdivI at h
  obtain ⟨h', rfl⟩ := iteS h
  exact ev_bin_ h1 k1 h2 k2 (if_pos h')
theorem bDivK (h : divOk j = true) (h1 : ev c e ρ = some ((fl, .int i), ρ1)) (h2 : ev c f ρ1 = some ((fl', .int j), ρ2)) (k1 : (read? fl && okBo fl f) = true := by rfl) (k2 : read? fl' = true := by rfl) : ev c (.bin .fdiv e f) ρ = some ((.sh, .int (i.fdiv j)), ρ2) :=
  ev_bin_ h1 k1 h2 k2 (if_pos h)
theorem bMod {m : Int} (h : modI i j = some m) (h1 : ev c e ρ = some ((fl, .int i), ρ1)) (h2 : ev c f ρ1 = some ((fl', .int j), ρ2)) (k1 : (read? fl && okBo fl f) = true := by rfl) (k2 : read? fl' = true := by rfl) : ev c (.bin .mod e f) ρ = some ((.sh, .int m), ρ2) := by
  unfold modI at h
  obtain ⟨h', rfl⟩ := iteS h
  exact ev_bin_ h1 k1 h2 k2 (if_pos h')
theorem bModK (h : j ≠ 0) (h1 : ev c e ρ = some ((fl, .int i), ρ1)) (h2 : ev c f ρ1 = some ((fl', .int j), ρ2)) (k1 : (read? fl && okBo fl f) = true := by rfl) (k2 : read? fl' = true := by rfl) : ev c (.bin .mod e f) ρ = some ((.sh, .int (i.fmod j)), ρ2) :=
  ev_bin_ h1 k1 h2 k2 (if_pos h)
theorem bShl {m : Int} (h : shlI i j = some m) (h1 : ev c e ρ = some ((fl, .int i), ρ1)) (h2 : ev c f ρ1 = some ((fl', .int j), ρ2)) (k1 : (read? fl && okBo fl f) = true := by rfl) (k2 : read? fl' = true := by rfl) : ev c (.bin .shl e f) ρ = some ((.sh, .int m), ρ2) := by
  unfold shlI at h
  obtain ⟨h', rfl⟩ := iteS h
  exact ev_bin_ h1 k1 h2 k2 (if_pos h')
theorem bPow {m : Int} (h : powI i j = some m) (h1 : ev c e ρ = some ((fl, .int i), ρ1)) (h2 : ev c f ρ1 = some ((fl', .int j), ρ2)) (k1 : (read? fl && okBo fl f) = true := by rfl) (k2 : read? fl' = true := by rfl) : ev c (.bin .pow e f) ρ = some ((.sh, .int m), ρ2) := by
  unfold powI at h
  obtain ⟨h', rfl⟩ := iteS h
  exact ev_bin_ h1 k1 h2 k2 (if_pos h')
theorem bNeg (h1 : ev c e ρ = some ((fl, .int i), ρ1)) : ev c (.neg e) ρ = some ((.sh, .int (-i)), ρ1) := by
  simp only [ev, h1, Option.bind_some]
theorem cLt (h1 : ev c e ρ = some ((fl, .int i), ρ1)) (h2 : ev c f ρ1 = some ((fl', .int j), ρ2)) (k1 : (read? fl && okBo fl f) = true := by rfl) (k2 : read? fl' = true := by rfl) : ev c (.cmp .lt e f) ρ = some ((.sh, .bool (decide (i < j))), ρ2) := ev_cmp_ h1 k1 h2 k2 rfl
theorem cLe (h1 : ev c e ρ = some ((fl, .int i), ρ1)) (h2 : ev c f ρ1 = some ((fl', .int j), ρ2)) (k1 : (read? fl && okBo fl f) = true := by rfl) (k2 : read? fl' = true := by rfl) : ev c (.cmp .le e f) ρ = some ((.sh, .bool (decide (i ≤ j))), ρ2) := ev_cmp_ h1 k1 h2 k2 rfl
theorem cGt (h1 : ev c e ρ = some ((fl, .int i), ρ1)) (h2 : ev c f ρ1 = some ((fl', .int j), ρ2)) (k1 : (read? fl && okBo fl f) = true := by rfl) (k2 : read? fl' = true := by rfl) : ev c (.cmp .gt e f) ρ = some ((.sh, .bool (decide (j < i))), ρ2) := ev_cmp_ h1 k1 h2 k2 rfl
theorem cGe (h1 : ev c e ρ = some ((fl, .int i), ρ1)) (h2 : ev c f ρ1 = some ((fl', .int j), ρ2)) (k1 : (read? fl && okBo fl f) = true := by rfl) (k2 : read? fl' = true := by rfl) : ev c (.cmp .ge e f) ρ = some ((.sh, .bool (decide (j ≤ i))), ρ2) := ev_cmp_ h1 k1 h2 k2 rfl
theorem cEqI (h1 : ev c e ρ = some ((fl, .int i), ρ1)) (h2 : ev c f ρ1 = some ((fl', .int j), ρ2)) (k1 : (read? fl && okBo fl f) = true := by rfl) (k2 : read? fl' = true := by rfl) : ev c (.cmp .eq e f) ρ = some ((.sh, .bool (decide (i = j))), ρ2) := ev_cmp_ h1 k1 h2 k2 rfl
theorem cNeI (h1 : ev c e ρ = some ((fl, .int i), ρ1)) (h2 : ev c f ρ1 = some ((fl', .int j), ρ2)) (k1 : (read? fl && okBo fl f) = true := by rfl) (k2 : read? fl' = true := by rfl) : ev c (.cmp .ne e f) ρ = some ((.sh, .bool (!decide (i = j))), ρ2) := ev_cmp_ h1 k1 h2 k2 rfl
theorem cEqS {i j : Str} (h1 : ev c e ρ = some ((fl, .str i), ρ1)) (h2 : ev c f ρ1 = some ((fl', .str j), ρ2)) (k1 : (read? fl && okBo fl f) = true := by rfl) (k2 : read? fl' = true := by rfl) : ev c (.cmp .eq e f) ρ = some ((.sh, .bool (decide (i = j))), ρ2) := ev_cmp_ h1 k1 h2 k2 rfl
theorem cNeS {i j : Str} (h1 : ev c e ρ = some ((fl, .str i), ρ1)) (h2 : ev c f ρ1 = some ((fl', .str j), ρ2)) (k1 : (read? fl && okBo fl f) = true := by rfl) (k2 : read? fl' = true := by rfl) : ev c (.cmp .ne e f) ρ = some ((.sh, .bool (!decide (i = j))), ρ2) := ev_cmp_ h1 k1 h2 k2 rfl
end
/-! ### equality of data -/
structure EqC {α : Type} [DecidableEq α] (m : Nat) (f : α → Dt) : Prop where
  eqv : ∀ a b, PyData.eqv (f a) (f b) = decide (a = b)
  lay : ∀ a, (f a).canLay0 = true
  dep : ∀ a, (f a).depth ≤ m
section
variable {α β γ δ : Type} [DecidableEq α] [DecidableEq β] [DecidableEq γ] [DecidableEq δ] {m k : Nat} {fa : α → Dt} {fb : β → Dt} {fc : γ → Dt} {fd : δ → Dt}
theorem EqC.flat (C : EqC m fa) (h : m ≤ 64) (a : α) : flat (fa a) = true := by
  unfold Mini.flat SeqAt.shaped
  rw [C.lay, decide_eq_true (Nat.le_trans (C.dep a) h)]
  rfl
theorem eqI : EqC 0 PyData.int := ⟨fun a b => by
  show (a == b) = _
  rw [Bool.beq_eq_decide_eq], fun _ => rfl, fun _ => Nat.le_refl _⟩
theorem eqB : EqC 0 PyData.bool := ⟨fun a b => by cases a <;> cases b <;> rfl, fun _ => rfl, fun _ => Nat.le_refl _⟩
theorem EqC.all (C : EqC m fa) : ∀ xs ys : List α, PyData.eqvAll (xs.map fa) (ys.map fa) = decide (xs = ys)
  | [], [] => rfl
  | [], _ :: _ => rfl
  | _ :: _, [] => rfl
  | x :: xs, y :: ys => by
    show (PyData.eqv (fa x) (fa y) && PyData.eqvAll (xs.map fa) (ys.map fa)) = _
    rw [C.eqv, C.all xs ys]
    by_cases h1 : x = y <;> by_cases h2 : xs = ys <;> simp [h1, h2]
theorem EqC.layAll (C : EqC m fa) : ∀ xs : List α, PyData.canLayAll0 (xs.map fa) = true
  | [] => rfl
  | x :: xs => by
    show (PyData.canLay0 (fa x) && PyData.canLayAll0 (xs.map fa)) = true
    rw [C.lay, C.layAll xs]
    rfl
theorem EqC.depAll (C : EqC m fa) : ∀ xs : List α, PyData.depthAll (xs.map fa) ≤ m
  | [] => Nat.zero_le _
  | x :: xs => by
    have h1 := C.dep x
    have h2 := C.depAll xs
    simp only [List.map_cons, PyData.depthAll]
    omega
end
end
end Mir

end
section
set_option Elab.async false
set_option linter.all false
set_option maxRecDepth 100000
set_option maxHeartbeats 4000000
/-! Mir, part 2: lists, loops' things, calls. -/
namespace Mir
open PySem Mini
section
variable {c : CallS} {n : Nat} {ρ ρ1 ρ2 ρ' : En} {e f g : E} {fl fl' : Fl} {α β γ δ : Type} {fa : α → Dt} {fb : β → Dt}
/-! ### equality -/
section
variable [DecidableEq α] [DecidableEq β] {m k : Nat}
theorem eqT (C : EqC m fa) : EqC (m + 1) (eT fa) := ⟨fun a b => C.all a b, fun a => C.layAll a, fun a => by
  have := C.depAll a
  show PyData.depthAll (a.map fa) + 1 ≤ m + 1
  omega⟩
theorem eqL (C : EqC m fa) : EqC (m + 1) (eL fa) := ⟨fun a b => C.all a b, fun a => C.layAll a, fun a => by
  have := C.depAll a
  show PyData.depthAll (a.map fa) + 1 ≤ m + 1
  omega⟩
theorem eqP2 (C : EqC m fa) (D : EqC k fb) : EqC (max m k + 1) (eP2 fa fb) := ⟨fun a b => by
  show (PyData.eqv (fa a.1) (fa b.1) && (PyData.eqv (fb a.2) (fb b.2) && true)) = _
  rw [C.eqv, D.eqv]
  obtain ⟨a1, a2⟩ := a
  obtain ⟨b1, b2⟩ := b
  by_cases h1 : a1 = b1 <;> by_cases h2 : a2 = b2 <;> simp [h1, h2], fun a => by
  show (PyData.canLay0 (fa a.1) && (PyData.canLay0 (fb a.2) && true)) = true
  rw [C.lay, D.lay]
  rfl, fun a => by
  have h1 := C.dep a.1
  have h2 := D.dep a.2
  show PyData.depthAll [fa a.1, fb a.2] + 1 ≤ _
  simp only [PyData.depthAll]
  omega⟩
theorem cmpD_eqC (C : EqC m fa) (h : m ≤ 64) (x y : α) (hx : ∀ i j, ¬ (fa x = .int i ∧ fa y = .int j)) (hy : ∀ i j, ¬ (fa x = .str i ∧ fa y = .str j)) : cmpD .eq (fa x) (fa y) = some (decide (x = y)) := by
  have h1 := C.flat h x
  have h2 := C.flat h y
  have key : (if Mini.flat (fa x) && Mini.flat (fa y) then some (PyData.eqv (fa x) (fa y)) else none) = some (decide (x = y)) := by
    rw [h1, h2, C.eqv]
    rfl
  rw [← key]
  unfold cmpD
  cases hx1 : fa x <;> cases hy1 : fa y <;> first | rfl | exact absurd ⟨hx1, hy1⟩ (hx _ _) | exact absurd ⟨hx1, hy1⟩ (hy _ _)
theorem cEqC (C : EqC m fa) (h : m ≤ 64) {x y : α} (h1 : ev c e ρ = some ((fl, fa x), ρ1)) (h2 : ev c f ρ1 = some ((fl', fa y), ρ2)) (hx : ∀ i j, ¬ (fa x = .int i ∧ fa y = .int j)) (hy : ∀ i j, ¬ (fa x = .str i ∧ fa y = .str j)) (k1 : (read? fl && okBo fl f) = true := by rfl) (k2 : read? fl' = true := by rfl) :
    ev c (.cmp .eq e f) ρ = some ((.sh, .bool (decide (x = y))), ρ2) := ev_cmp_ h1 k1 h2 k2 (cmpD_eqC C h x y hx hy)
theorem cmpD_neC (C : EqC m fa) (h : m ≤ 64) (x y : α) (hx : ∀ i j, ¬ (fa x = .int i ∧ fa y = .int j)) (hy : ∀ i j, ¬ (fa x = .str i ∧ fa y = .str j)) : cmpD .ne (fa x) (fa y) = some (!decide (x = y)) := by
  have h1 := C.flat h x
  have h2 := C.flat h y
  have key : (if Mini.flat (fa x) && Mini.flat (fa y) then some (!PyData.eqv (fa x) (fa y)) else none) = some (!decide (x = y)) := by
    rw [h1, h2, C.eqv]
    rfl
  rw [← key]
  unfold cmpD
  cases hx1 : fa x <;> cases hy1 : fa y <;> first | rfl | exact absurd ⟨hx1, hy1⟩ (hx _ _) | exact absurd ⟨hx1, hy1⟩ (hy _ _)
theorem cNeC (C : EqC m fa) (h : m ≤ 64) {x y : α} (h1 : ev c e ρ = some ((fl, fa x), ρ1)) (h2 : ev c f ρ1 = some ((fl', fa y), ρ2)) (hx : ∀ i j, ¬ (fa x = .int i ∧ fa y = .int j)) (hy : ∀ i j, ¬ (fa x = .str i ∧ fa y = .str j)) (k1 : (read? fl && okBo fl f) = true := by rfl) (k2 : read? fl' = true := by rfl) :
    ev c (.cmp .ne e f) ρ = some ((.sh, .bool (!decide (x = y))), ρ2) := ev_cmp_ h1 k1 h2 k2 (cmpD_neC C h x y hx hy)
theorem any_eqv (C : EqC m fa) (xs : List α) (x : α) : ((xs.map fa).any fun z => PyData.eqv z (fa x)) = decide (x ∈ xs) := by
  induction xs with
  | nil => rfl
  | cons y ys ih =>
    rw [List.map_cons, List.any_cons, C.eqv, ih]
    by_cases h1 : y = x
    · subst h1; simp
    · by_cases h2 : x ∈ ys <;> simp [h1, h2, Ne.symm h1]
theorem cInL (C : EqC m fa) (h : m + 1 ≤ 64) {x : α} {xs : List α} (h1 : ev c e ρ = some ((fl, fa x), ρ1)) (h2 : ev c f ρ1 = some ((fl', eL fa xs), ρ2)) (k1 : (read? fl && okBo fl f) = true := by rfl) (k2 : read? fl' = true := by rfl) :
    ev c (.cmp .inn e f) ρ = some ((.sh, .bool (decide (x ∈ xs))), ρ2) := by
  refine ev_cmp_ h1 k1 h2 k2 ?_
  have hf : (Mini.flat (fa x) && Mini.flat (eL fa xs)) = true := by rw [C.flat (by omega), (eqL C).flat h]; rfl
  have key : inD (fa x) (eL fa xs) = some (decide (x ∈ xs)) := by
    show (if Mini.flat (fa x) && Mini.flat (eL fa xs) then some ((xs.map fa).any fun z => PyData.eqv z (fa x)) else none) = _
    rw [if_pos hf, any_eqv C]
  rw [← key]
  unfold cmpD
  cases fa x <;> rfl
theorem cNinL (C : EqC m fa) (h : m + 1 ≤ 64) {x : α} {xs : List α} (h1 : ev c e ρ = some ((fl, fa x), ρ1)) (h2 : ev c f ρ1 = some ((fl', eL fa xs), ρ2)) (k1 : (read? fl && okBo fl f) = true := by rfl) (k2 : read? fl' = true := by rfl) :
    ev c (.cmp .nin e f) ρ = some ((.sh, .bool (!decide (x ∈ xs))), ρ2) := by
  refine ev_cmp_ h1 k1 h2 k2 ?_
  have hf : (Mini.flat (fa x) && Mini.flat (eL fa xs)) = true := by rw [C.flat (by omega), (eqL C).flat h]; rfl
  have key : (inD (fa x) (eL fa xs)).map (fun z => !z) = some (!decide (x ∈ xs)) := by
    show (if Mini.flat (fa x) && Mini.flat (eL fa xs) then some ((xs.map fa).any fun z => PyData.eqv z (fa x)) else none).map _ = _
    rw [if_pos hf, any_eqv C]
    rfl
  rw [← key]
  unfold cmpD
  cases fa x <;> rfl
end
/-! ### truth, and, or, not, if -/
theorem tB {b : Bool} (h1 : ev c e ρ = some ((fl, .bool b), ρ1)) (k : read? fl = true := by rfl) : tv c e ρ = some (b, ρ1) := tv_ h1 k rfl
theorem tI {i : Int} (h1 : ev c e ρ = some ((fl, .int i), ρ1)) (k : read? fl = true := by rfl) : tv c e ρ = some (decide (i ≠ 0), ρ1) := tv_ h1 k rfl
theorem tL {xs : List α} (h1 : ev c e ρ = some ((fl, eL fa xs), ρ1)) (k : read? fl = true := by rfl) : tv c e ρ = some (!xs.isEmpty, ρ1) := tv_ h1 k (by cases xs <;> rfl)
theorem nB {b : Bool} (h1 : ev c e ρ = some ((fl, .bool b), ρ1)) (k : read? fl = true := by rfl) : ev c (.not e) ρ = some ((.sh, .bool (!b)), ρ1) := by
  simp only [ev, h1, Option.bind_some, k, if_true, tru, Option.map_some]
theorem aB {x y : Bool} (h1 : ev c e ρ = some ((.sh, .bool x), ρ1)) (h2 : x = true → ev c f ρ1 = some ((.sh, .bool y), ρ1)) (h3 : x = false → y = false) : ev c (.and e f) ρ = some ((.sh, .bool y), ρ1) := by
  cases x with
  | true => exact ev_andT (kp h1) rfl (kp (h2 rfl))
  | false => rw [h3 rfl]; exact ev_andF (kp h1) rfl
theorem oB {x y : Bool} (h1 : ev c e ρ = some ((.sh, .bool x), ρ1)) (h2 : x = false → ev c f ρ1 = some ((.sh, .bool y), ρ1)) (h3 : x = true → y = true) : ev c (.or e f) ρ = some ((.sh, .bool y), ρ1) := by
  cases x with
  | false => exact ev_orF (kp h1) rfl (kp (h2 rfl))
  | true => rw [h3 rfl]; exact ev_orT (kp h1) rfl
theorem iB {x : Bool} {s : Sl} (h1 : tv c e ρ = some (x, ρ1)) (h2 : x = true → ev c f ρ1 = some (s, ρ2)) (h3 : x = false → ev c g ρ1 = some (s, ρ2)) (hk : keep? s.1 = true := by rfl) : ev c (.ite e f g) ρ = some (s, ρ2) := by
  have h1' : (ev c e ρ).bind tst = some (x, ρ1) := h1
  cases x with
  | true => simp only [ev, h1', Option.bind_some, if_true, h2 rfl, hk]
  | false => simp only [ev, h1', Option.bind_some, Bool.false_eq_true, if_false, h3 rfl, hk, if_true]
theorem chI {o o' : Co} {x y z : Dt} {p q r : Bool} (h1 : keepS (ev c e ρ) = some (x, ρ1)) (he : ev c e ρ = some ((fl, x), ρ1)) (hk : keep? fl = true) (h2 : ev c f ρ1 = some ((fl', y), ρ1)) (hk' : keep? fl' = true) (h3 : cmpD o x y = some p) (h4 : p = true → ev c g ρ1 = some ((.sh, z), ρ1) ∧ cmpD o' y z = some q) (hr : r = (p && q)) :
    ev c (.chain o o' e f g) ρ = some ((.sh, .bool r), ρ1) := by
  subst hr
  cases p with
  | true =>
    obtain ⟨k1, k2⟩ := h4 rfl
    simp only [ev, he, Option.bind_some, hk, if_true, h2, hk', h3, k1, k2, read?, Option.map_some, Bool.true_and]
  | false => simp only [ev, he, Option.bind_some, hk, if_true, h2, hk', h3, Bool.false_eq_true, if_false, Bool.false_and]
/-! ### displays -/
theorem lNil : evL c .nil ρ = some ([], ρ) := rfl
theorem lNilM : evL c .nil ρ = some (([] : List α).map fa, ρ) := rfl
theorem lCons {r : Es} {x : Dt} {ds : List Dt} {fl : Fl} (h1 : ev c e ρ = some ((fl, x), ρ1)) (h2 : evL c r ρ1 = some (ds, ρ')) (hk : keep? fl = true := by rfl) : evL c (.cons e r) ρ = some (x :: ds, ρ') := evL_cons_ (kp h1 hk) h2
theorem lConsM {r : Es} {x : α} {xs : List α} {fl : Fl} (h1 : ev c e ρ = some ((fl, fa x), ρ1)) (h2 : evL c r ρ1 = some (xs.map fa, ρ')) (hk : keep? fl = true := by rfl) : evL c (.cons e r) ρ = some ((x :: xs).map fa, ρ') := evL_cons_ (kp h1 hk) h2
theorem lStarT {r : Es} {xs ys : List α} (h1 : ev c e ρ = some ((fl, eT fa xs), ρ1)) (h2 : evL c r ρ1 = some (ys.map fa, ρ')) (hk : read? fl = true := by rfl) : evL c (.star e r) ρ = some ((xs ++ ys).map fa, ρ') := by
  rw [List.map_append]
  exact evL_star_ h1 hk rfl h2
theorem lStarL {r : Es} {xs ys : List α} (h1 : ev c e ρ = some ((fl, eL fa xs), ρ1)) (h2 : evL c r ρ1 = some (ys.map fa, ρ')) (hk : read? fl = true := by rfl) : evL c (.star e r) ρ = some ((xs ++ ys).map fa, ρ') := by
  rw [List.map_append]
  exact evL_star_ h1 hk rfl h2
theorem dT {es : Es} {ds : List Dt} (h1 : evL c es ρ = some (ds, ρ1)) (h2 : ds.length ≤ lim) : ev c (.tup es) ρ = some ((.sh, .tuple ds), ρ1) := ev_tup_ h1 h2
theorem dL {es : Es} {ds : List Dt} (h1 : evL c es ρ = some (ds, ρ1)) (h2 : ds.length ≤ lim) : ev c (.lst es) ρ = some ((.own, .list ds), ρ1) := ev_lst_ h1 h2
theorem dTM {es : Es} {xs ys : List α} (h : limL xs = some ys) (h1 : evL c es ρ = some (xs.map fa, ρ1)) : ev c (.tup es) ρ = some ((.sh, eT fa ys), ρ1) := by
  unfold limL at h
  obtain ⟨h', rfl⟩ := iteS h
  exact ev_tup_ h1 (by rw [List.length_map]; exact h')
theorem dLM {es : Es} {xs ys : List α} (h : limL xs = some ys) (h1 : evL c es ρ = some (xs.map fa, ρ1)) : ev c (.lst es) ρ = some ((.own, eL fa ys), ρ1) := by
  unfold limL at h
  obtain ⟨h', rfl⟩ := iteS h
  exact ev_lst_ h1 (by rw [List.length_map]; exact h')
/-! ### lists put together -/
theorem catLL {xs ys zs : List α} (h : catL xs ys = some zs) (h1 : ev c e ρ = some ((fl, eL fa xs), ρ1)) (h2 : ev c f ρ1 = some ((fl', eL fa ys), ρ2)) (k1 : (read? fl && okBo fl f) = true := by rfl) (k2 : read? fl' = true := by rfl) : ev c (.bin .add e f) ρ = some ((.own, eL fa zs), ρ2) := by
  unfold catL at h
  obtain ⟨h', rfl⟩ := iteS h
  refine ev_bin_ h1 k1 h2 k2 ?_
  show (if (xs.map fa).length + (ys.map fa).length ≤ lim then some (Fl.own, PyData.list (xs.map fa ++ ys.map fa)) else none) = _
  rw [List.length_map, List.length_map, if_pos h']
  simp only [eL, eT, List.map_append]
theorem catTT {xs ys zs : List α} (h : catL xs ys = some zs) (h1 : ev c e ρ = some ((fl, eT fa xs), ρ1)) (h2 : ev c f ρ1 = some ((fl', eT fa ys), ρ2)) (k1 : (read? fl && okBo fl f) = true := by rfl) (k2 : read? fl' = true := by rfl) : ev c (.bin .add e f) ρ = some ((.sh, eT fa zs), ρ2) := by
  unfold catL at h
  obtain ⟨h', rfl⟩ := iteS h
  refine ev_bin_ h1 k1 h2 k2 ?_
  show (if (xs.map fa).length + (ys.map fa).length ≤ lim then some (Fl.sh, PyData.tuple (xs.map fa ++ ys.map fa)) else none) = _
  rw [List.length_map, List.length_map, if_pos h']
  simp only [eL, eT, List.map_append]
theorem repLL {xs zs : List α} {k : Int} (h : repL xs k = some zs) (h1 : ev c e ρ = some ((fl, eL fa xs), ρ1)) (h2 : ev c f ρ1 = some ((fl', .int k), ρ2)) (k1 : (read? fl && okBo fl f) = true := by rfl) (k2 : read? fl' = true := by rfl) : ev c (.bin .mul e f) ρ = some ((.own, eL fa zs), ρ2) := by
  unfold repL at h
  obtain ⟨h', rfl⟩ := iteS h
  refine ev_bin_ h1 k1 h2 k2 ?_
  show (if (xs.map fa).length * k.toNat ≤ lim ∧ k.natAbs < 2 ^ 60 then some (Fl.own, PyData.list (List.replicate k.toNat (xs.map fa)).flatten) else none) = _
  rw [List.length_map, if_pos h']
  simp only [eL, List.map_flatten, List.map_replicate]
/-! ### places -/
theorem atL_map {xs : List α} {i : Int} {x : α} (h : atL xs i = some x) : ixD (xs.map fa) i = some (fa x) := by
  unfold atL L2.atI at h
  unfold ixD L2.atI
  rw [List.length_map]
  obtain ⟨j, h1, h2⟩ := bindS h
  rw [h1, Option.bind_some, List.getElem?_map, h2]
  rfl
theorem ixL {xs : List α} {i : Int} {x : α} (h : atL xs i = some x) (h1 : ev c e ρ = some ((fl, eL fa xs), ρ1)) (h2 : ev c f ρ1 = some ((fl', .int i), ρ2)) (k1 : (read? fl && okBo fl f) = true := by rfl) (k2 : read? fl' = true := by rfl) : ev c (.idx e f) ρ = some ((.sh, fa x), ρ2) := ev_idx_ h1 k1 h2 k2 (atL_map h)
theorem ixT {xs : List α} {i : Int} {x : α} (h : atL xs i = some x) (h1 : ev c e ρ = some ((fl, eT fa xs), ρ1)) (h2 : ev c f ρ1 = some ((fl', .int i), ρ2)) (k1 : (read? fl && okBo fl f) = true := by rfl) (k2 : read? fl' = true := by rfl) : ev c (.idx e f) ρ = some ((.sh, fa x), ρ2) := ev_idx_ h1 k1 h2 k2 (atL_map h)
theorem ixP {ds : List Dt} {i : Int} {d : Dt} (h : ixD ds i = some d) (h1 : ev c e ρ = some ((fl, .tuple ds), ρ1)) (h2 : ev c f ρ1 = some ((fl', .int i), ρ2)) (k1 : (read? fl && okBo fl f) = true := by rfl) (k2 : read? fl' = true := by rfl) : ev c (.idx e f) ρ = some ((.sh, d), ρ2) := ev_idx_ h1 k1 h2 k2 h
theorem cutD_map (xs : List α) (lo hi : Option Int) : cutD (xs.map fa) lo hi = (cutD xs lo hi).map fa := by
  unfold cutD
  rw [List.length_map, ← List.map_drop, ← List.map_take]
theorem slLT {xs : List α} {i : Int} (h1 : ev c e ρ = some ((fl, eT fa xs), ρ1)) (h2 : ev c f ρ1 = some ((fl', .int i), ρ2)) (k1 : (read? fl && okBo fl f) = true := by rfl) : ev c (.slL e f) ρ = some ((.sh, eT fa (cutD xs (some i) none)), ρ2) := by
  simp only [ev, h1, Option.bind_some, k1, if_true, h2, sliceD, cutD_map, Option.map_some]
theorem slLL {xs : List α} {i : Int} (h1 : ev c e ρ = some ((fl, eL fa xs), ρ1)) (h2 : ev c f ρ1 = some ((fl', .int i), ρ2)) (k1 : (read? fl && okBo fl f) = true := by rfl) : ev c (.slL e f) ρ = some ((.own, eL fa (cutD xs (some i) none)), ρ2) := by
  simp only [ev, h1, Option.bind_some, k1, if_true, h2, sliceD, cutD_map, Option.map_some]
theorem slUT {xs : List α} {i : Int} (h1 : ev c e ρ = some ((fl, eT fa xs), ρ1)) (h2 : ev c f ρ1 = some ((fl', .int i), ρ2)) (k1 : (read? fl && okBo fl f) = true := by rfl) : ev c (.slU e f) ρ = some ((.sh, eT fa (cutD xs none (some i))), ρ2) := by
  simp only [ev, h1, Option.bind_some, k1, if_true, h2, sliceD, cutD_map, Option.map_some]
theorem slUL {xs : List α} {i : Int} (h1 : ev c e ρ = some ((fl, eL fa xs), ρ1)) (h2 : ev c f ρ1 = some ((fl', .int i), ρ2)) (k1 : (read? fl && okBo fl f) = true := by rfl) : ev c (.slU e f) ρ = some ((.own, eL fa (cutD xs none (some i))), ρ2) := by
  simp only [ev, h1, Option.bind_some, k1, if_true, h2, sliceD, cutD_map, Option.map_some]
theorem slBT {xs : List α} {i j : Int} {ρ3 : En} (h1 : ev c e ρ = some ((fl, eT fa xs), ρ1)) (h2 : ev c f ρ1 = some ((fl', .int i), ρ2)) (h3 : ev c g ρ2 = some ((fl', .int j), ρ3)) (k1 : (read? fl && okBo fl f && okBo fl g) = true := by rfl) : ev c (.slLU e f g) ρ = some ((.sh, eT fa (cutD xs (some i) (some j))), ρ3) := by
  simp only [ev, h1, Option.bind_some, k1, if_true, h2, h3, sliceD, cutD_map, Option.map_some]
theorem slBL {xs : List α} {i j : Int} {ρ3 : En} (h1 : ev c e ρ = some ((fl, eL fa xs), ρ1)) (h2 : ev c f ρ1 = some ((fl', .int i), ρ2)) (h3 : ev c g ρ2 = some ((fl', .int j), ρ3)) (k1 : (read? fl && okBo fl f && okBo fl g) = true := by rfl) : ev c (.slLU e f g) ρ = some ((.own, eL fa (cutD xs (some i) (some j))), ρ3) := by
  simp only [ev, h1, Option.bind_some, k1, if_true, h2, h3, sliceD, cutD_map, Option.map_some]
theorem rvT {xs : List α} (h1 : ev c e ρ = some ((fl, eT fa xs), ρ1)) (k1 : read? fl = true := by rfl) : ev c (.rev e) ρ = some ((.sh, eT fa xs.reverse), ρ1) := by
  simp only [ev, h1, Option.bind_some, k1, if_true, revD, Option.map_some, List.map_reverse, eL, eT]
theorem rvL {xs : List α} (h1 : ev c e ρ = some ((fl, eL fa xs), ρ1)) (k1 : read? fl = true := by rfl) : ev c (.rev e) ρ = some ((.own, eL fa xs.reverse), ρ1) := by
  simp only [ev, h1, Option.bind_some, k1, if_true, revD, Option.map_some, List.map_reverse, eL, eT]
/-! ### built-in functions -/
theorem lenT {xs : List α} (h1 : ev c e ρ = some ((fl, eT fa xs), ρ1)) (k1 : read? fl = true := by rfl) : ev c (.b1 .len e) ρ = some ((.sh, .int (xs.length : Nat)), ρ1) := ev_b1_ h1 k1 (by
  show some (Fl.sh, PyData.int ((xs.map fa).length : Nat)) = _
  rw [List.length_map])
theorem lenL {xs : List α} (h1 : ev c e ρ = some ((fl, eL fa xs), ρ1)) (k1 : read? fl = true := by rfl) : ev c (.b1 .len e) ρ = some ((.sh, .int (xs.length : Nat)), ρ1) := ev_b1_ h1 k1 (by
  show some (Fl.sh, PyData.int ((xs.map fa).length : Nat)) = _
  rw [List.length_map])
theorem b1A {i : Int} (h1 : ev c e ρ = some ((fl, .int i), ρ1)) (k1 : read? fl = true := by rfl) : ev c (.b1 .abs e) ρ = some ((.sh, .int (absI i)), ρ1) := ev_b1_ h1 k1 rfl
theorem b1I {i : Int} (h1 : ev c e ρ = some ((fl, .int i), ρ1)) (k1 : read? fl = true := by rfl) : ev c (.b1 .int e) ρ = some ((.sh, .int i), ρ1) := ev_b1_ h1 k1 rfl
theorem b1Bi {i : Bool} (h1 : ev c e ρ = some ((fl, .bool i), ρ1)) (k1 : read? fl = true := by rfl) : ev c (.b1 .int e) ρ = some ((.sh, .int (b2i i)), ρ1) := ev_b1_ h1 k1 rfl
theorem b1TL {xs : List α} (h1 : ev c e ρ = some ((fl, eL fa xs), ρ1)) (k1 : read? fl = true := by rfl) : ev c (.b1 .tuple e) ρ = some ((.sh, eT fa xs), ρ1) := ev_b1_ h1 k1 rfl
theorem b1TT {xs : List α} (h1 : ev c e ρ = some ((fl, eT fa xs), ρ1)) (k1 : read? fl = true := by rfl) : ev c (.b1 .tuple e) ρ = some ((.sh, eT fa xs), ρ1) := ev_b1_ h1 k1 rfl
theorem b1LL {xs : List α} (h1 : ev c e ρ = some ((fl, eL fa xs), ρ1)) (k1 : read? fl = true := by rfl) : ev c (.b1 .list e) ρ = some ((.own, eL fa xs), ρ1) := ev_b1_ h1 k1 rfl
theorem b1LT {xs : List α} (h1 : ev c e ρ = some ((fl, eT fa xs), ρ1)) (k1 : read? fl = true := by rfl) : ev c (.b1 .list e) ρ = some ((.own, eL fa xs), ρ1) := ev_b1_ h1 k1 rfl
theorem sumL {xs : List Int} (h1 : ev c e ρ = some ((fl, eL PyData.int xs), ρ1)) (k1 : read? fl = true := by rfl) : ev c (.b1 .sum e) ρ = some ((.sh, .int xs.sum), ρ1) := ev_b1_ h1 k1 (by
  show (allI (xs.map .int)).map _ = _
  rw [allI_ints]
  rfl)
theorem sumT {xs : List Int} (h1 : ev c e ρ = some ((fl, eT PyData.int xs), ρ1)) (k1 : read? fl = true := by rfl) : ev c (.b1 .sum e) ρ = some ((.sh, .int xs.sum), ρ1) := ev_b1_ h1 k1 (by
  show (allI (xs.map .int)).map _ = _
  rw [allI_ints]
  rfl)
theorem mx2 {i j : Int} (h1 : ev c e ρ = some ((fl, .int i), ρ1)) (h2 : ev c f ρ1 = some ((fl', .int j), ρ2)) (k1 : keep? fl = true := by rfl) (k2 : keep? fl' = true := by rfl) : ev c (.b2 .max e f) ρ = some ((.sh, .int (max2 i j)), ρ2) := ev_b2_ (kp h1 k1) (kp h2 k2) rfl
theorem mn2 {i j : Int} (h1 : ev c e ρ = some ((fl, .int i), ρ1)) (h2 : ev c f ρ1 = some ((fl', .int j), ρ2)) (k1 : keep? fl = true := by rfl) (k2 : keep? fl' = true := by rfl) : ev c (.b2 .min e f) ρ = some ((.sh, .int (min2 i j)), ρ2) := ev_b2_ (kp h1 k1) (kp h2 k2) rfl
theorem mxL {xs : List Int} {m : Int} (h : maxL xs = some m) (h1 : ev c e ρ = some ((fl, eL PyData.int xs), ρ1)) (k1 : read? fl = true := by rfl) : ev c (.b1 .max e) ρ = some ((.sh, .int m), ρ1) := ev_b1_ h1 k1 (by
  show (match allI (xs.map .int) with | some (n :: ns) => some (Fl.sh, PyData.int (ns.foldl max n)) | _ => none) = _
  rw [allI_ints]
  cases xs with
  | nil => cases h
  | cons x xs => cases h; rfl)
theorem mnL {xs : List Int} {m : Int} (h : minL xs = some m) (h1 : ev c e ρ = some ((fl, eL PyData.int xs), ρ1)) (k1 : read? fl = true := by rfl) : ev c (.b1 .min e) ρ = some ((.sh, .int m), ρ1) := by
  have k : b1D .min (eL PyData.int xs) = some (.sh, .int m) := by
    cases xs with
    | nil => cases h
    | cons x xs =>
      cases h
      show (match allI ((x :: xs).map .int) with | some (n :: ns) => some (Fl.sh, PyData.int (ns.foldl min n)) | _ => _) = _
      rw [allI_ints]
  exact ev_b1_ h1 k1 k
theorem srtI {xs : List Int} (h1 : ev c e ρ = some ((fl, eL PyData.int xs), ρ1)) (k1 : read? fl = true := by rfl) : ev c (.b1 .sorted e) ρ = some ((.own, eL PyData.int (sortI xs)), ρ1) := ev_b1_ h1 k1 (by
  show (match allI (xs.map .int) with | some ns => _ | none => _) = _
  rw [allI_ints])
theorem rpr {d : Dt} {s : Str} (h : reprC d = some s) (h1 : ev c e ρ = some ((fl, d), ρ1)) (k1 : read? fl = true := by rfl) : ev c (.b1 .repr e) ρ = some ((.sh, .str s), ρ1) := by
  unfold reprC at h
  obtain ⟨h', rfl⟩ := iteS h
  have k : b1D .repr d = some (.sh, .str d.shown) := by
    have : (if shows d = true then some ((Fl.sh, PyData.str d.shown) : Sl) else none) = some (.sh, .str d.shown) := if_pos h'
    rw [← this]
    cases d <;> rfl
  exact ev_b1_ h1 k1 k
/-! ### list methods -/
theorem app_ {i : Nat} {x : α} {xs ys zs : List α} (h : appL xs x = some zs) (h0 : rd ρ i = some (.own, eL fa ys)) (h1 : ev c e ρ = some ((fl, fa x), ρ1)) (h2 : rd ρ1 i = some (.own, eL fa xs)) (h3 : ρ1.set i (some (.own, eL fa zs)) = ρ') (hk : keep? fl = true := by rfl) : ev c (.app i e) ρ = some ((.sh, .none), ρ') := by
  unfold appL at h
  obtain ⟨h', rfl⟩ := iteS h
  have k := kp h1 hk
  have e1 : (xs ++ [x]).map fa = xs.map fa ++ [fa x] := by rw [List.map_append]; rfl
  simp only [ev, h0, k, Option.bind_some, h2, List.length_map, h', if_true, ← e1, h3]
theorem ext_ {i : Nat} {xs ys zs us : List α} (h : catL xs ys = some zs) (h0 : rd ρ i = some (.own, eL fa us)) (h1 : ev c e ρ = some ((.own, eL fa ys), ρ1)) (h2 : rd ρ1 i = some (.own, eL fa xs)) (h3 : ρ1.set i (some (.own, eL fa zs)) = ρ') : ev c (.ext i e) ρ = some ((.sh, .none), ρ') := by
  unfold catL at h
  obtain ⟨h', rfl⟩ := iteS h
  have e1 : (xs ++ ys).map fa = xs.map fa ++ ys.map fa := List.map_append
  simp only [ev, h0, h1, Option.bind_some, h2, List.length_map, h', if_true, ← e1, h3]
theorem pop_ {i : Nat} {x : α} {xs zs : List α} (h : popL xs = some (x, zs)) (h0 : rd ρ i = some (.own, eL fa xs)) (h3 : ρ.set i (some (.own, eL fa zs)) = ρ') : ev c (.pop i) ρ = some ((.sh, fa x), ρ') := by
  unfold popL at h
  obtain ⟨y, h1, h2⟩ := Option.map_eq_some_iff.mp h
  cases h2
  simp only [ev, h0, List.getLast?_map, h1, Option.map_some, ← List.map_dropLast, h3]
theorem ixN_set {xs : List α} {i : Int} {x : α} {zs : List α} (h : Mir.setL xs i x = some zs) : ∃ m, L2.ixN (xs.map fa).length i = some m ∧ (xs.map fa).set m (fa x) = zs.map fa := by
  unfold Mir.setL at h
  obtain ⟨m, h1, rfl⟩ := Option.map_eq_some_iff.mp h
  exact ⟨m, by rw [List.length_map]; exact h1, by rw [List.map_set]⟩
theorem Ok.setLM {b rest : Ss} {P : Out → Prop} {i : Nat} {x : α} {j : Int} {xs zs : List α} (h0 : Mir.setL xs j x = some zs) (h1 : ev c e ρ = some ((fl, fa x), ρ1)) (h2 : (rd ρ1 i).isSome = true) (h3 : ev c f ρ1 = some ((fl', .int j), ρ2)) (h4 : rd ρ2 i = some (.own, eL fa xs))
    (h6 : ρ2.set i (some (.own, eL fa zs)) = ρ') (h : Ok c n rest ρ' P) (hk : keep? fl = true := by rfl) (hk' : keep? fl' = true := by rfl) : Ok c n (.cons (.setx i f e) rest) ρ P := by
  obtain ⟨m, k1, k2⟩ := ixN_set (fa := fa) h0
  exact Ok.setL (kp h1 hk) h2 (kp h3 hk') h4 k1 (by rw [k2]; exact h6) h
/-! ### what loops go over -/
theorem upTo_rng (lo hi : Int) : Mini.upTo lo 1 (hi - lo).toNat = (rng lo hi).map PyData.int := by
  unfold Mini.upTo rng
  rw [List.map_map]
  refine List.map_congr_left fun i _ => ?_
  show PyData.int (lo + (i : Nat) * 1) = PyData.int (lo + (i : Nat))
  rw [Int.mul_one]
theorem iE {ds : List Dt} {d : Dt} (hd : seqOf d = some ds) (h1 : ev c e ρ = some ((fl, d), ρ1)) (hk : keep? fl = true := by rfl) : evI c (.e e) ρ = some (ds, ρ1) := by
  simp only [evI, kp h1 hk, Option.bind_some, hd, Option.map_some]
theorem iScr {ns : List Int} {i : Nat} (h : rd ρ i = some (.src, eL PyData.int ns)) : evI c (.scr i) ρ = some (ns.map PyData.int, ρ) := by simp only [evI, h]
theorem iR1 {i : Int} {xs : List Int} (h : rng1I i = some xs) (h1 : ev c e ρ = some ((fl, .int i), ρ1)) (hk : keep? fl = true := by rfl) : evI c (.rng1 e) ρ = some (xs.map PyData.int, ρ1) := by
  unfold rng1I at h
  obtain ⟨h', rfl⟩ := iteS h
  simp only [evI, kp h1 hk, Option.bind_some, h', if_true]
  rw [← upTo_rng, Int.sub_zero]
theorem iR2 {i j : Int} {xs : List Int} (h : rngI i j = some xs) (h1 : ev c e ρ = some ((fl, .int i), ρ1)) (h2 : ev c f ρ1 = some ((fl', .int j), ρ2)) (hk : keep? fl = true := by rfl) (hk' : keep? fl' = true := by rfl) : evI c (.rng2 e f) ρ = some (xs.map PyData.int, ρ2) := by
  unfold rngI at h
  obtain ⟨h', rfl⟩ := iteS h
  simp only [evI, kp h1 hk, kp h2 hk', Option.bind_some, h', if_true]
  rw [← upTo_rng]
theorem iR3 {i j k : Int} {xs : List Int} {ρ3 : En} {fl3 : Fl} (h : rng3I i j k = some xs) (h1 : ev c e ρ = some ((fl, .int i), ρ1)) (h2 : ev c f ρ1 = some ((fl', .int j), ρ2)) (h3 : ev c g ρ2 = some ((fl3, .int k), ρ3)) (hk : keep? fl = true := by rfl) (hk' : keep? fl' = true := by rfl) (hk3 : keep? fl3 = true := by rfl) : evI c (.rng3 e f g) ρ = some (xs.map PyData.int, ρ3) := by
  unfold rng3I at h
  obtain ⟨h', rfl⟩ := iteS h
  simp only [evI, kp h1 hk, kp h2 hk', kp h3 hk3, Option.bind_some, h', if_true]
  unfold rng3 Mini.upTo
  rw [List.map_map]
  rfl
theorem lrg_ {i j : Int} {xs : List Int} (h : lrgI i j = some xs) (h1 : ev c e ρ = some ((fl, .int i), ρ1)) (h2 : ev c f ρ1 = some ((fl', .int j), ρ2)) (hk : keep? fl = true := by rfl) (hk' : keep? fl' = true := by rfl) : ev c (.lrg e f) ρ = some ((.own, eL PyData.int xs), ρ2) := by
  unfold lrgI at h
  obtain ⟨h', rfl⟩ := iteS h
  simp only [ev, kp h1 hk, kp h2 hk', Option.bind_some, h', if_true]
  show some ((Fl.own, PyData.list _), _) = some ((Fl.own, PyData.list ((rng i j).map PyData.int)), _)
  rw [← upTo_rng]
theorem enumD_map (xs : List α) : enumD (xs.map fa) = (enumT xs).map (eP2 PyData.int fa) := by
  unfold enumD enumT
  have key : ∀ (xs : List α) (k : Nat), ((xs.map fa).zipIdx k).map (fun p => PyData.tuple [.int (p.2 : Nat), p.1]) = ((xs.zipIdx k).map fun p => (((p.2 : Nat) : Int), p.1)).map (eP2 PyData.int fa) := fun xs => by
    induction xs with
    | nil => intro k; rfl
    | cons x xs ih =>
      intro k
      simp only [List.map_cons, List.zipIdx_cons]
      rw [ih (k + 1)]
  exact key xs 0
theorem iEnL {xs : List α} {d : Dt} (hd : seqOf d = some (xs.map fa)) (h1 : ev c e ρ = some ((fl, d), ρ1)) (hk : keep? fl = true := by rfl) : evI c (.enum e) ρ = some ((enumT xs).map (eP2 PyData.int fa), ρ1) := by
  simp only [evI, kp h1 hk, Option.bind_some, hd, Option.map_some, enumD_map]
theorem zipD_map (xs : List α) (ys : List β) : zipD (xs.map fa) (ys.map fb) = (xs.zip ys).map (eP2 fa fb) := by
  unfold zipD
  rw [List.zip_map, List.map_map]
  rfl
theorem iZL {xs : List α} {ys : List β} (h1 : ev c e ρ = some ((fl, eL fa xs), ρ1)) (h2 : ev c f ρ1 = some ((fl', eL fb ys), ρ2)) (hk : keep? fl = true := by rfl) (hk' : keep? fl' = true := by rfl) : evI c (.zip e f) ρ = some ((xs.zip ys).map (eP2 fa fb), ρ2) := by
  simp only [evI, kp h1 hk, kp h2 hk', Option.bind_some, zip2, Option.map_some, zipD_map]
theorem iZT {xs : List α} {ys : List β} (h1 : ev c e ρ = some ((fl, eT fa xs), ρ1)) (h2 : ev c f ρ1 = some ((fl', eT fb ys), ρ2)) (hk : keep? fl = true := by rfl) (hk' : keep? fl' = true := by rfl) : evI c (.zip e f) ρ = some ((xs.zip ys).map (eP2 fa fb), ρ2) := by
  simp only [evI, kp h1 hk, kp h2 hk', Option.bind_some, zip2, Option.map_some, zipD_map]
theorem iIt {d : List (α × β)} {i : Nat} (h : rd ρ i = some (.sh, eD fa fb d)) : evI c (.items i) ρ = some (d.map (eP2 fa fb), ρ) := by
  simp only [evI, h, List.map_map]
  rfl
theorem iItO {d : List (α × β)} {i : Nat} (h : rd ρ i = some (.own, eD fa fb d)) (h' : ρ.set i (some (.sh, eD fa fb d)) = ρ') : evI c (.items i) ρ = some (d.map (eP2 fa fb), ρ') := by
  simp only [evI, h, List.map_map, h']
  rfl
theorem iKy {d : List (α × β)} {i : Nat} (h : rd ρ i = some (.sh, eD fa fb d)) : evI c (.keys i) ρ = some ((d.map (·.1)).map fa, ρ) := by
  simp only [evI, h, List.map_map]
  rfl
theorem iKyO {d : List (α × β)} {i : Nat} (h : rd ρ i = some (.own, eD fa fb d)) (h' : ρ.set i (some (.sh, eD fa fb d)) = ρ') : evI c (.keys i) ρ = some ((d.map (·.1)).map fa, ρ') := by
  simp only [evI, h, List.map_map, h']
  rfl
/-! ### comprehensions -/
theorem compL_M {F : En → Dt → Option (Option Dt × En)} {ρ0 : En} (fa : α → Dt) (g : α → Option (List Dt)) (step : ∀ x ys, g x = some ys → ys.length ≤ 1 ∧ F ρ0 (fa x) = some (ys.head?, ρ0)) : ∀ (xs : List α) (ys : List (List Dt)), xs.mapM g = some ys → compL F (xs.map fa) ρ0 = some (ys.flatten, ρ0)
  | [], ys, h => by
    cases h
    rfl
  | x :: xs, ys, h => by
    rw [List.mapM_cons] at h
    obtain ⟨y, h1, h⟩ := bindS h
    obtain ⟨zs, h2, h⟩ := bindS h
    cases h
    obtain ⟨hl, h3⟩ := step x y h1
    have h4 := compL_M fa g step xs zs h2
    simp only [List.map_cons, compL, h3, Option.bind_some, h4, Option.map_some, List.flatten_cons]
    match y, hl with
    | [], _ => rfl
    | [_], _ => rfl
    | _ :: _ :: _, hl => simp at hl
theorem mapM_map {h : β → γ} {g : α → Option β} : ∀ (xs : List α) (ys : List β), xs.mapM g = some ys → xs.mapM (fun x => (g x).map h) = some (ys.map h)
  | [], ys, e => by cases e; rfl
  | x :: xs, ys, e => by
    rw [List.mapM_cons] at e
    obtain ⟨y, h1, e⟩ := bindS e
    obtain ⟨zs, h2, e⟩ := bindS e
    cases e
    have h3 := mapM_map (h := h) xs zs h2
    rw [List.mapM_cons, h1, h3]
    rfl
theorem comp_ {elt : E} {p : Pat} {it : It} {own : List Nat} {xs : List α} {g : α → Option β} {ys : List β} (h : mapC xs g = some ys) (h1 : evI c it ρ = some (xs.map fa, ρ1)) (h3 : ownFree ρ1 own = true)
    (h4 : ∀ x y, g x = some y → ∃ ρ2 ρ3 fl, bind p (.sh, fa x) (wipe ρ1 own) = some ρ2 ∧ ev c elt ρ2 = some ((fl, fb y), ρ3) ∧ keep? fl = true ∧ wipe ρ3 own = wipe ρ1 own) (h5 : back ρ1 (wipe ρ1 own) own = ρ') : ev c (.comp elt p it own) ρ = some ((.own, eL fb ys), ρ') := by
  unfold mapC at h
  obtain ⟨hl, h⟩ := Option.ite_none_right_eq_some.mp h
  have k := compL_M (F := fun ρ' x => (bind p (.sh, x) ρ').bind fun ρ'' => (keepS (ev c elt ρ'')).map fun q => (some q.1, wipe q.2 own)) (ρ0 := wipe ρ1 own) fa (fun x => (g x).map fun y => [fb y]) (fun x zs hz => by
    obtain ⟨y, hy, rfl⟩ := Option.map_eq_some_iff.mp hz
    obtain ⟨ρ2, ρ3, fl, k1, k2, k3, k4⟩ := h4 x y hy
    exact ⟨Nat.le_refl _, by simp only [k1, Option.bind_some, kp k2 k3, Option.map_some, k4, List.head?_cons]⟩) xs _ (mapM_map xs ys h)
  have e1 : ∀ l : List β, (l.map fun y => [fb y]).flatten = l.map fb := fun l => by
    induction l with
    | nil => rfl
    | cons y l ih => rw [List.map_cons, List.flatten_cons, ih]; rfl
  rw [e1] at k
  simp only [ev, h1, Option.bind_some, List.length_map]
  rw [if_pos (by rw [decide_eq_true hl]; exact h3), k, Option.map_some, h5]
theorem compIf_ {elt q : E} {p : Pat} {it : It} {own : List Nat} {xs : List α} {cc : α → Option Bool} {g : α → Option β} {ys : List β} (h : filC xs cc g = some ys) (h1 : evI c it ρ = some (xs.map fa, ρ1)) (h3 : ownFree ρ1 own = true)
    (h4 : ∀ x b, cc x = some b → ∃ ρ2, bind p (.sh, fa x) (wipe ρ1 own) = some ρ2 ∧ tv c q ρ2 = some (b, ρ2) ∧ wipe ρ2 own = wipe ρ1 own ∧ (b = true → ∀ y, g x = some y → ∃ ρ3 fl, ev c elt ρ2 = some ((fl, fb y), ρ3) ∧ keep? fl = true ∧ wipe ρ3 own = wipe ρ1 own)) (h5 : back ρ1 (wipe ρ1 own) own = ρ') : ev c (.compIf elt p it own q) ρ = some ((.own, eL fb ys), ρ') := by
  unfold filC at h
  obtain ⟨hl, h0⟩ := Option.ite_none_right_eq_some.mp h
  obtain ⟨zs, h6, hz⟩ := Option.map_eq_some_iff.mp h0
  clear h h0
  subst hz
  have k := compL_M (F := fun ρ' x => (bind p (.sh, x) ρ').bind fun ρ'' => ((ev c q ρ'').bind tst).bind fun t => if t.1 then (keepS (ev c elt t.2)).map fun q => (some q.1, wipe q.2 own) else some (none, wipe t.2 own)) (ρ0 := wipe ρ1 own) fa (fun x => ((cc x).bind fun b => if b = true then (g x).map some else some none).map fun y => (y.map fb).toList) (fun x zs hz => by
    obtain ⟨y, hy, rfl⟩ := Option.map_eq_some_iff.mp hz
    obtain ⟨b, hb, hy⟩ := bindS hy
    obtain ⟨ρ2, k1, k2, k3, k4⟩ := h4 x b hb
    have k2' : (ev c q ρ2).bind tst = some (b, ρ2) := k2
    cases b with
    | true =>
      rw [if_pos rfl] at hy
      obtain ⟨w, hw, rfl⟩ := Option.map_eq_some_iff.mp hy
      obtain ⟨ρ3, fl, k5, k6, k7⟩ := k4 rfl w hw
      refine ⟨Nat.le_refl _, ?_⟩
      simp only [k1, Option.bind_some, k2', if_true, kp k5 k6, Option.map_some, k7]
      rfl
    | false =>
      rw [if_neg (by decide)] at hy
      cases hy
      refine ⟨Nat.zero_le _, ?_⟩
      simp only [k1, Option.bind_some, k2', Bool.false_eq_true, if_false, k3]
      rfl) xs _ (mapM_map xs zs h6)
  have e1 : ∀ l : List (Option β), (l.map fun y => (y.map fb).toList).flatten = (l.filterMap id).map fb := fun l => by
    induction l with
    | nil => rfl
    | cons y ys ih =>
      cases y with
      | none => simpa using ih
      | some y => simpa using ih
  rw [e1] at k
  simp only [ev, h1, Option.bind_some, List.length_map]
  rw [if_pos (by rw [decide_eq_true hl]; exact h3), k, Option.map_some, h5]
end
end Mir

end
section
set_option Elab.async false
set_option linter.all false
set_option maxRecDepth 100000
set_option maxHeartbeats 4000000
/-! Mir, part 3: dicts, calls, sorted data. -/
namespace Mir
open PySem Mini
abbrev eX (d : Dt) : Dt := d
/-- a slot that holds nothing owned -/
abbrev Fr (u : Option Sl) : Prop := u.map (·.1) ≠ some .own ∧ u.map (·.1) ≠ some .src
theorem fr_n : Fr none := by constructor <;> simp
theorem fr_s {d : Dt} : Fr (some (.sh, d)) := by constructor <;> simp
section
variable {c : CallS} {n : Nat} {ρ ρ1 ρ2 ρ' : En} {e f g : E} {fl fl' : Fl} {α β γ δ : Type} {fa : α → Dt} {fb : β → Dt} {rest : Ss} {P : Out → Prop}
theorem ownFree0 : ownFree ρ [] = true := rfl
theorem ownFree1 {i : Nat} {u : Option Sl} (h : Fr u) (hu : rd ρ i = u := by rfl) : ownFree ρ [i] = true := by
  show (decide ((rd ρ i).map (·.1) ≠ some .own ∧ (rd ρ i).map (·.1) ≠ some .src) && true) = true
  rw [hu, decide_eq_true (show u.map (·.1) ≠ some .own ∧ u.map (·.1) ≠ some .src from h)]
  rfl
theorem ownFree2 {i j : Nat} {u w : Option Sl} (h : Fr u) (h2 : Fr w) (hu : rd ρ i = u := by rfl) (hw : rd ρ j = w := by rfl) : ownFree ρ [i, j] = true := by
  show (decide ((rd ρ i).map (·.1) ≠ some .own ∧ (rd ρ i).map (·.1) ≠ some .src) && ownFree ρ [j]) = true
  rw [hu, decide_eq_true (show u.map (·.1) ≠ some .own ∧ u.map (·.1) ≠ some .src from h), ownFree1 h2 hw]
  rfl
theorem ownFree3 {i j k : Nat} {u w z : Option Sl} (h : Fr u) (h2 : Fr w) (h3 : Fr z) (hu : rd ρ i = u := by rfl) (hw : rd ρ j = w := by rfl) (hz : rd ρ k = z := by rfl) : ownFree ρ [i, j, k] = true := by
  show (decide ((rd ρ i).map (·.1) ≠ some .own ∧ (rd ρ i).map (·.1) ≠ some .src) && ownFree ρ [j, k]) = true
  rw [hu, decide_eq_true (show u.map (·.1) ≠ some .own ∧ u.map (·.1) ≠ some .src from h), ownFree2 h2 h3 hw hz]
  rfl
theorem ownFree4 {i j k l : Nat} {u w z y : Option Sl} (h : Fr u) (h2 : Fr w) (h3 : Fr z) (h4 : Fr y) (hu : rd ρ i = u := by rfl) (hw : rd ρ j = w := by rfl) (hz : rd ρ k = z := by rfl) (hy : rd ρ l = y := by rfl) : ownFree ρ [i, j, k, l] = true := by
  show (decide ((rd ρ i).map (·.1) ≠ some .own ∧ (rd ρ i).map (·.1) ≠ some .src) && ownFree ρ [j, k, l]) = true
  rw [hu, decide_eq_true (show u.map (·.1) ≠ some .own ∧ u.map (·.1) ≠ some .src from h), ownFree3 h2 h3 h4 hw hz hy]
  rfl
theorem nx_inv {σ : Type} {s : σ} {R : σ → En → Prop} {q : Out} (h : Nx (R s) q) : ∃ ρ', q = .nx ρ' ∧ R s ρ' := by
  cases q with
  | nx ρ' => exact ⟨ρ', rfl, h⟩
  | _ => exact h.elim
theorem Ok.pass (h : Ok c n rest ρ P) : Ok c n (.cons .pass rest) ρ P := by
  obtain ⟨o, k1, k2⟩ := h
  exact ⟨o, by simp only [exs, ex]; exact k1, k2⟩
theorem aB2 {x y : Bool} (h1 : ev c e ρ = some ((.sh, .bool x), ρ1)) (h2 : x = true → ev c f ρ1 = some ((.sh, .bool y), ρ1)) : ev c (.and e f) ρ = some ((.sh, .bool (x && y)), ρ1) := by
  cases x with
  | true => exact ev_andT (kp h1) rfl (kp (h2 rfl))
  | false => exact ev_andF (kp h1) rfl
theorem oB2 {x y : Bool} (h1 : ev c e ρ = some ((.sh, .bool x), ρ1)) (h2 : x = false → ev c f ρ1 = some ((.sh, .bool y), ρ1)) : ev c (.or e f) ρ = some ((.sh, .bool (x || y)), ρ1) := by
  cases x with
  | false => exact ev_orF (kp h1) rfl (kp (h2 rfl))
  | true => exact ev_orT (kp h1) rfl
theorem nL {xs : List α} (h1 : ev c e ρ = some ((fl, eL fa xs), ρ1)) (k : read? fl = true := by rfl) : ev c (.not e) ρ = some ((.sh, .bool xs.isEmpty), ρ1) := by
  cases xs <;> simp [ev, h1, k, tru]
theorem isN_ {x : Option α} (hn : ∀ a, cmpD .isN (fa a) .none = some false) (h1 : ev c e ρ = some ((fl, eO fa x), ρ1)) (h2 : ev c f ρ1 = some ((fl', .none), ρ2)) (k1 : (read? fl && okBo fl f) = true := by rfl) (k2 : read? fl' = true := by rfl) : ev c (.cmp .isN e f) ρ = some ((.sh, .bool x.isNone), ρ2) := by
  refine ev_cmp_ h1 k1 h2 k2 ?_
  cases x with
  | none => rfl
  | some a => exact hn a
theorem noN_ {x : Option α} (hn : ∀ a, cmpD .notN (fa a) .none = some true) (h1 : ev c e ρ = some ((fl, eO fa x), ρ1)) (h2 : ev c f ρ1 = some ((fl', .none), ρ2)) (k1 : (read? fl && okBo fl f) = true := by rfl) (k2 : read? fl' = true := by rfl) : ev c (.cmp .notN e f) ρ = some ((.sh, .bool x.isSome), ρ2) := by
  refine ev_cmp_ h1 k1 h2 k2 ?_
  cases x with
  | none => rfl
  | some a => exact hn a
/-! ### calls -/
theorem aNil : evA c .nil ρ = some (([], []), ρ) := rfl
theorem aIo {i : Nat} {r : Es} {D : List (Dt ⊕ Nat)} {L : List Nat} (h : (rd ρ i).isSome = true) (h2 : evA c r ρ = some ((D, L), ρ')) : evA c (.cons (.io i) r) ρ = some ((.inr i :: D, i :: L), ρ') := by
  simp only [evA, h, if_true, h2, Option.map_some]
theorem aCons {r : Es} {D : List (Dt ⊕ Nat)} {L : List Nat} {d : Dt} (hio : ∀ i, e ≠ .io i) (h1 : ev c e ρ = some ((fl, d), ρ1)) (h2 : evA c r ρ1 = some ((D, L), ρ')) (hk : keep? fl = true := by rfl) : evA c (.cons e r) ρ = some ((.inl d :: D, L), ρ') := by
  have : evA c (.cons e r) ρ = (keepS (ev c e ρ)).bind fun x => (evA c r x.2).map fun q => ((.inl x.1 :: q.1.1, q.1.2), q.2) := by
    cases e <;> first | rfl | exact absurd rfl (hio _)
  rw [this, kp h1 hk]
  simp only [Option.bind_some, h2, Option.map_some]
/-! ### equality of tuples -/
section
variable [DecidableEq α] [DecidableEq β] [DecidableEq γ] [DecidableEq δ] {m k l o : Nat} {fc : γ → Dt} {fd : δ → Dt}
theorem eqP3 (C : EqC m fa) (D : EqC k fb) (E : EqC l fc) : EqC (max m (max k l) + 1) (eP3 fa fb fc) := ⟨fun a b => by
  show (PyData.eqv (fa a.1) (fa b.1) && (PyData.eqv (fb a.2.1) (fb b.2.1) && (PyData.eqv (fc a.2.2) (fc b.2.2) && true))) = _
  rw [C.eqv, D.eqv, E.eqv]
  obtain ⟨a1, a2, a3⟩ := a
  obtain ⟨b1, b2, b3⟩ := b
  by_cases h1 : a1 = b1 <;> by_cases h2 : a2 = b2 <;> by_cases h3 : a3 = b3 <;> simp [h1, h2, h3], fun a => by
  show (PyData.canLay0 (fa a.1) && (PyData.canLay0 (fb a.2.1) && (PyData.canLay0 (fc a.2.2) && true))) = true
  rw [C.lay, D.lay, E.lay]
  rfl, fun a => by
  have h1 := C.dep a.1
  have h2 := D.dep a.2.1
  have h3 := E.dep a.2.2
  show PyData.depthAll [fa a.1, fb a.2.1, fc a.2.2] + 1 ≤ _
  simp only [PyData.depthAll]
  omega⟩
theorem eqP4 (C : EqC m fa) (D : EqC k fb) (E : EqC l fc) (F : EqC o fd) : EqC (max m (max k (max l o)) + 1) (eP4 fa fb fc fd) := ⟨fun a b => by
  show (PyData.eqv (fa a.1) (fa b.1) && (PyData.eqv (fb a.2.1) (fb b.2.1) && (PyData.eqv (fc a.2.2.1) (fc b.2.2.1) && (PyData.eqv (fd a.2.2.2) (fd b.2.2.2) && true)))) = _
  rw [C.eqv, D.eqv, E.eqv, F.eqv]
  obtain ⟨a1, a2, a3, a4⟩ := a
  obtain ⟨b1, b2, b3, b4⟩ := b
  by_cases h1 : a1 = b1 <;> by_cases h2 : a2 = b2 <;> by_cases h3 : a3 = b3 <;> by_cases h4 : a4 = b4 <;> simp [h1, h2, h3, h4], fun a => by
  show (PyData.canLay0 (fa a.1) && (PyData.canLay0 (fb a.2.1) && (PyData.canLay0 (fc a.2.2.1) && (PyData.canLay0 (fd a.2.2.2) && true)))) = true
  rw [C.lay, D.lay, E.lay, F.lay]
  rfl, fun a => by
  have h1 := C.dep a.1
  have h2 := D.dep a.2.1
  have h3 := E.dep a.2.2.1
  have h4 := F.dep a.2.2.2
  show PyData.depthAll [fa a.1, fb a.2.1, fc a.2.2.1, fd a.2.2.2] + 1 ≤ _
  simp only [PyData.depthAll]
  omega⟩
theorem eqO (C : EqC m fa) (hn : ∀ a, PyData.eqv (fa a) .none = false ∧ PyData.eqv .none (fa a) = false) : EqC m (eO fa) := ⟨fun a b => by
  cases a <;> cases b
  · rfl
  · exact (hn _).2.trans (by simp)
  · exact (hn _).1.trans (by simp)
  · rename_i x y
    show PyData.eqv (fa x) (fa y) = _
    rw [C.eqv]
    simp, fun a => by cases a with
  | none => rfl
  | some a => exact C.lay a, fun a => by cases a with
  | none => exact Nat.zero_le _
  | some a => exact C.dep a⟩
end
/-! ### sorted data -/
def sortC (f : α → Dt) (xs : List α) : Option (List α) := match allI (xs.map f) with
  | some _ => none
  | none => if sortOk (xs.map f) = true then some (xs.mergeSort fun a b => leD (f a) (f b)) else none
theorem srtC {xs ys : List α} (h : sortC fa xs = some ys) (h1 : ev c e ρ = some ((fl, eL fa xs), ρ1)) (k1 : read? fl = true := by rfl) : ev c (.b1 .sorted e) ρ = some ((.own, eL fa ys), ρ1) := by
  refine ev_b1_ h1 k1 ?_
  unfold sortC at h
  show (match allI (xs.map fa) with
    | some ns => some (Fl.own, PyData.list ((sortI ns).map .int))
    | none => if sortOk (xs.map fa) then some (.own, .list ((xs.map fa).mergeSort leD)) else none) = _
  cases ha : allI (xs.map fa) with
  | some ns => rw [ha] at h; cases h
  | none =>
    rw [ha] at h
    obtain ⟨h', rfl⟩ := iteS h
    have e1 : (xs.mergeSort fun a b => leD (fa a) (fa b)).map fa = (xs.map fa).mergeSort leD := List.map_mergeSort fun a _ b _ => rfl
    show (if sortOk (xs.map fa) = true then some (Fl.own, PyData.list ((xs.map fa).mergeSort leD)) else none) = some (Fl.own, PyData.list ((xs.mergeSort fun a b => leD (fa a) (fa b)).map fa))
    rw [if_pos h', e1]
/-! ### dicts -/
theorem eqK_I (a b : Int) : eqK (.int a) (.int b) = decide (a = b) := rfl
theorem eqK_S (a b : Str) : eqK (.str a) (.str b) = decide (a = b) := rfl
section
variable {κ τ : Type} [DecidableEq κ] {fk : κ → Dt} {ft : τ → Dt}
theorem kvGet_map (hk : ∀ a b, eqK (fk a) (fk b) = decide (a = b)) (d : List (κ × τ)) (k : κ) : kvGet (d.map fun p => (fk p.1, ft p.2)) (fk k) = (dGet d k).map ft := by
  unfold kvGet dGet
  rw [List.find?_map, Option.map_map, Option.map_map]
  have e1 : ((fun p : Dt × Dt => eqK p.1 (fk k)) ∘ fun p : κ × τ => (fk p.1, ft p.2)) = fun p => decide (p.1 = k) := funext fun p => hk _ _
  rw [e1]
  rfl
theorem kvPut_map (hk : ∀ a b, eqK (fk a) (fk b) = decide (a = b)) (d : List (κ × τ)) (k : κ) (v : τ) : kvPut (d.map fun p => (fk p.1, ft p.2)) (fk k) (ft v) = (dPut d k v).map fun p => (fk p.1, ft p.2) := by
  unfold kvPut dPut
  have e1 : ((fun p : Dt × Dt => eqK p.1 (fk k)) ∘ fun p : κ × τ => (fk p.1, ft p.2)) = fun p => decide (p.1 = k) := funext fun p => hk _ _
  rw [List.any_map, e1]
  by_cases h : (d.any fun p => decide (p.1 = k)) = true
  · rw [if_pos h, if_pos h, List.map_map, List.map_map]
    refine List.map_congr_left fun p _ => ?_
    show (if eqK (fk p.1) (fk k) = true then (fk p.1, ft v) else (fk p.1, ft p.2)) = (fk (if decide (p.1 = k) = true then (p.1, v) else p).1, ft (if decide (p.1 = k) = true then (p.1, v) else p).2)
    rw [hk]
    by_cases hp : p.1 = k
    · rw [decide_eq_true hp, if_pos rfl, if_pos rfl]
    · rw [decide_eq_false hp, if_neg (by decide), if_neg (by decide)]
  · rw [if_neg h, if_neg h, List.map_append]
    rfl
theorem getD_map (o : Option τ) (x : τ) : (o.map ft).getD (ft x) = ft (o.getD x) := by cases o <;> rfl
end
theorem get2_I {d : List (Int × β)} {k : Int} {x : β} {f3 : Fl} {ρ3 : En} (h1 : ev c e ρ = some ((fl, eD PyData.int fb d), ρ1)) (h2 : ev c f ρ1 = some ((fl', .int k), ρ2)) (h3 : ev c g ρ2 = some ((f3, fb x), ρ3)) (k1 : (read? fl && okBo fl f && okBo fl g) = true := by rfl) (k2 : keep? fl' = true := by rfl) (k3 : keep? f3 = true := by rfl) :
    ev c (.get2 e f g) ρ = some ((.sh, fb ((dGet d k).getD x)), ρ3) := by
  have e1 : get2D (eD PyData.int fb d) (.int k) (fb x) = some (.sh, fb ((dGet d k).getD x)) := by
    show (if isKey (.int k) = true then some (Fl.sh, (kvGet (d.map fun p => (PyData.int p.1, fb p.2)) (.int k)).getD (fb x)) else none) = _
    rw [if_pos (show isKey (.int k) = true from rfl), kvGet_map eqK_I, getD_map]
  simp only [ev, h1, Option.bind_some, k1, if_true, kp h2 k2, kp h3 k3, e1, Option.map_some]
theorem get1_I {d : List (Int × β)} {k : Int} (h1 : ev c e ρ = some ((fl, eD PyData.int fb d), ρ1)) (h2 : ev c f ρ1 = some ((fl', .int k), ρ2)) (k1 : (read? fl && okBo fl f) = true := by rfl) (k2 : keep? fl' = true := by rfl) :
    ev c (.m1 .get e f) ρ = some ((.sh, eO fb (dGet d k)), ρ2) := by
  have e1 : m1D .get (eD PyData.int fb d) (.int k) = some (.sh, eO fb (dGet d k)) := by
    show (if isKey (.int k) = true then some (Fl.sh, (kvGet (d.map fun p => (PyData.int p.1, fb p.2)) (.int k)).getD .none) else none) = _
    rw [if_pos (show isKey (.int k) = true from rfl), kvGet_map eqK_I]
    cases dGet d k <;> rfl
  simp only [ev, h1, Option.bind_some, k1, if_true, kp h2 k2, e1, Option.map_some]
theorem ixD_I {d : List (Int × β)} {k : Int} {x : β} (h : dGet d k = some x) (h1 : ev c e ρ = some ((fl, eD PyData.int fb d), ρ1)) (h2 : ev c f ρ1 = some ((fl', .int k), ρ2)) (k1 : (read? fl && okBo fl f) = true := by rfl) (k2 : read? fl' = true := by rfl) : ev c (.idx e f) ρ = some ((.sh, fb x), ρ2) := ev_idx_ h1 k1 h2 k2 (by
  show (if isKey (.int k) = true then kvGet (d.map fun p => (PyData.int p.1, fb p.2)) (.int k) else none) = _
  rw [if_pos (show isKey (.int k) = true from rfl), kvGet_map eqK_I, h]
  rfl)
theorem cInD_I {d : List (Int × β)} {k : Int} (h1 : ev c e ρ = some ((fl, .int k), ρ1)) (h2 : ev c f ρ1 = some ((fl', eD PyData.int fb d), ρ2)) (k1 : (read? fl && okBo fl f) = true := by rfl) (k2 : read? fl' = true := by rfl) : ev c (.cmp .inn e f) ρ = some ((.sh, .bool (dGet d k).isSome), ρ2) := ev_cmp_ h1 k1 h2 k2 (by
  show inD (.int k) (eD PyData.int fb d) = _
  show (if isKey (.int k) = true then some (kvGet (d.map fun p => (PyData.int p.1, fb p.2)) (.int k)).isSome else none) = _
  rw [if_pos (show isKey (.int k) = true from rfl), kvGet_map eqK_I, Option.isSome_map])
theorem cNinD_I {d : List (Int × β)} {k : Int} (h1 : ev c e ρ = some ((fl, .int k), ρ1)) (h2 : ev c f ρ1 = some ((fl', eD PyData.int fb d), ρ2)) (k1 : (read? fl && okBo fl f) = true := by rfl) (k2 : read? fl' = true := by rfl) : ev c (.cmp .nin e f) ρ = some ((.sh, .bool (dGet d k).isNone), ρ2) := ev_cmp_ h1 k1 h2 k2 (by
  show (inD (.int k) (eD PyData.int fb d)).map _ = _
  show (if isKey (.int k) = true then some (kvGet (d.map fun p => (PyData.int p.1, fb p.2)) (.int k)).isSome else none).map _ = _
  rw [if_pos (show isKey (.int k) = true from rfl), kvGet_map eqK_I, Option.isSome_map]
  cases dGet d k <;> rfl)
theorem dE : ev c (.dict [] .nil) ρ = some ((.own, .dict []), ρ) := rfl
theorem dD1_I {k : Int} {x : β} {vs : Es} (h : evL c vs ρ = some ([x].map fb, ρ1)) : ev c (.dict [.inl k] vs) ρ = some ((.own, eD PyData.int fb [(k, x)]), ρ1) := by
  simp only [ev, h, Option.bind_some]
  rfl
theorem Ok.setD_I {i : Nat} {x : β} {k : Int} {d z : List (Int × β)} (h0 : dPutI d k x = some z) (h1 : ev c e ρ = some ((fl, fb x), ρ1)) (h2 : (rd ρ1 i).isSome = true) (h3 : ev c f ρ1 = some ((fl', .int k), ρ2)) (h4 : rd ρ2 i = some (.own, eD PyData.int fb d))
    (h6 : ρ2.set i (some (.own, eD PyData.int fb z)) = ρ') (h : Ok c n rest ρ' P) (hk : keep? fl = true := by rfl) (hk' : keep? fl' = true := by rfl) : Ok c n (.cons (.setx i f e) rest) ρ P := by
  unfold dPutI at h0
  obtain ⟨h', rfl⟩ := iteS h0
  refine Ok.setD (kp h1 hk) h2 (kp h3 hk') h4 (by rw [List.length_map, decide_eq_true h']; rfl) ?_ h
  rw [kvPut_map eqK_I]
  exact h6
theorem litems_ {d : List (α × β)} {i : Nat} {z : List (α × β)} (h0 : limL d = some z) (h : rd ρ i = some (.own, eD fa fb d)) : ev c (.litems i) ρ = some ((.own, eL (eP2 fa fb) z), ρ) := by
  unfold limL at h0
  obtain ⟨h', rfl⟩ := iteS h0
  simp only [ev, h, List.length_map, h', if_true, List.map_map]
  rfl
theorem b1D_ {d : List (α × β)} (h1 : ev c e ρ = some ((fl, eD fa fb d), ρ1)) (k1 : read? fl = true := by rfl) : ev c (.b1 .dict e) ρ = some ((.own, eD fa fb d), ρ1) := ev_b1_ h1 k1 rfl
/-! ### the script, the draws -/
theorem mkS_ {ns : List Int} {s : Int} (h1 : ev c e ρ = some ((.own, eL PyData.int ns), ρ1)) (h2 : ev c f ρ1 = some ((fl, .int s), ρ2)) (hk : keep? fl = true := by rfl) : ev c (.mkS e f) ρ = some ((.src, eS (ns, 1, s, 0)), ρ2) := by
  simp only [ev, h1, Option.bind_some, allI_ints, kp h2 hk]
theorem fl_left {i : Nat} {s : Src} (h : rd ρ i = some (.src, eS s)) : ev c (.fl i "left") ρ = some ((.sh, .int s.2.1), ρ) := by simp only [ev, h]; rfl
theorem fl_mixed {i : Nat} {s : Src} (h : rd ρ i = some (.src, eS s)) : ev c (.fl i "mixed") ρ = some ((.sh, .int s.2.2.1), ρ) := by simp only [ev, h]; rfl
theorem fl_turn {i : Nat} {s : Src} (h : rd ρ i = some (.src, eS s)) : ev c (.fl i "turn") ρ = some ((.sh, .int s.2.2.2), ρ) := by simp only [ev, h]; rfl
theorem put_left (s : Src) (v : Int) : putF "left" v (eS s) = some (eS (s.1, v, s.2.2)) := rfl
theorem put_mixed (s : Src) (v : Int) : putF "mixed" v (eS s) = some (eS (s.1, s.2.1, v, s.2.2.2)) := rfl
theorem put_turn (s : Src) (v : Int) : putF "turn" v (eS s) = some (eS (s.1, s.2.1, s.2.2.1, v)) := rfl
/-- cells drawn while less than two is left -/
def pullS (s : Src) : Src := ((pullI s.1.reverse s.2.1).1.reverse, (pullI s.1.reverse s.2.1).2, s.2.2)
theorem pull_S (s : Src) : pullD (eS s) = some (eS (pullS s)) := by
  show (allI (s.1.map .int)).map _ = _
  rw [allI_ints]
  rfl
theorem xShA {i : Nat} {d : Dt} {fl : Fl} (hk : keep? fl = true) (h : rd ρ i = some (fl, d)) (h' : ρ.set i (some (.sh, d)) = ρ') : ev c (.sh i) ρ = some ((.sh, d), ρ') := by
  cases fl with
  | sh =>
    have hi : i < ρ.length := rd_lt h
    have e1 : ρ.set i (some (.sh, d)) = ρ := by
      refine List.ext_getElem? fun j => ?_
      by_cases hj : i = j
      · subst hj
        rw [List.getElem?_set_self hi]
        have := List.getElem?_eq_getElem hi
        unfold rd at h
        rw [this] at h ⊢
        rw [show ρ[i] = some (.sh, d) from h]
      · rw [List.getElem?_set_ne hj]
    rw [← h', e1]
    exact xSh h
  | own => exact xShO h h'
  | _ => cases hk
def mapS {σ : Type} (xs : List α) (g : σ → α → Option (β × σ)) (s : σ) : Option (List β × σ) := if xs.length ≤ lim then go xs s else none
where go : List α → σ → Option (List β × σ)
  | [], s => some ([], s)
  | x :: xs, s => (g s x).bind fun r => (go xs r.2).map fun q => (r.1 :: q.1, q.2)
theorem compL_S {σ : Type} {F : En → Dt → Option (Option Dt × En)} (ρ0 : σ → En) (fa : α → Dt) (fb : β → Dt) (g : σ → α → Option (β × σ)) (step : ∀ s x y s', g s x = some (y, s') → F (ρ0 s) (fa x) = some (some (fb y), ρ0 s')) : ∀ (xs : List α) (s s' : σ) (ys : List β), mapS.go g xs s = some (ys, s') → compL F (xs.map fa) (ρ0 s) = some (ys.map fb, ρ0 s')
  | [], s, s', ys, h => by
    cases h
    rfl
  | x :: xs, s, s', ys, h => by
    unfold mapS.go at h
    obtain ⟨⟨y, s1⟩, h1, h⟩ := bindS h
    obtain ⟨⟨zs, s2⟩, h2, h3⟩ := Option.map_eq_some_iff.mp h
    cases h3
    have k := compL_S ρ0 fa fb g step xs s1 s2 zs h2
    simp only [List.map_cons, compL, step s x y s1 h1, Option.bind_some, k, Option.map_some]
    rfl
theorem compS_ {σ : Type} {elt : E} {p : Pat} {it : It} {own : List Nat} {xs : List α} {g : σ → α → Option (β × σ)} {s : σ} {w : List β × σ} {ρ0 : σ → En} (h : mapS xs g s = some w) (h1 : evI c it ρ = some (xs.map fa, ρ1)) (h3 : ownFree ρ1 own = true) (h0 : wipe ρ1 own = ρ0 s)
    (h4 : ∀ s x y s', g s x = some (y, s') → ∃ ρ2 ρ3 fl, bind p (.sh, fa x) (ρ0 s) = some ρ2 ∧ ev c elt ρ2 = some ((fl, fb y), ρ3) ∧ keep? fl = true ∧ wipe ρ3 own = ρ0 s') (h5 : back ρ1 (ρ0 w.2) own = ρ') : ev c (.comp elt p it own) ρ = some ((.own, eL fb w.1), ρ') := by
  obtain ⟨ys, s'⟩ := w
  unfold mapS at h
  obtain ⟨hl, h⟩ := Option.ite_none_right_eq_some.mp h
  have k := compL_S (F := fun ρ' x => (bind p (.sh, x) ρ').bind fun ρ'' => (keepS (ev c elt ρ'')).map fun q => (some q.1, wipe q.2 own)) ρ0 fa fb g (fun s x y s' hz => by
    obtain ⟨ρ2, ρ3, fl, k1, k2, k3, k4⟩ := h4 s x y s' hz
    simp only [k1, Option.bind_some, kp k2 k3, Option.map_some, k4]) xs s s' ys h
  simp only [ev, h1, Option.bind_some, List.length_map]
  rw [if_pos (by rw [decide_eq_true hl]; exact h3), h0, k, Option.map_some, h5]
abbrev RR {σ τ : Type} (R : σ → En → Prop) (T : τ → Out → Prop) (o : σ ⊕ τ) (q : Out) : Prop := match o with
  | .inl s' => Nx (R s') q
  | .inr t => T t q ∧ ∃ r ρ', q = .rt r ρ'
theorem forR_ok2 {σ α τ : Type} {F : En → Dt → Option Out} (enc : α → Dt) (g : σ → α → Option (σ ⊕ τ)) (R : σ → En → Prop) (T : τ → Out → Prop)
    (step : ∀ s x o ρ, R s ρ → g s x = some o → ∃ q, F ρ (enc x) = some q ∧ RR R T o q)
    (xs : List α) (s : σ) (o : σ ⊕ τ) (ρ : En) (h : R s ρ) (h2 : forR g xs s = some o) : ∃ q, forL F (xs.map enc) ρ = some q ∧ RR R T o q := by
  have k := forR_ok (F := F) enc g R T (fun s x o ρ a b => by
    obtain ⟨q, k1, k2⟩ := step s x o ρ a b
    refine ⟨q, k1, ?_⟩
    cases o with
    | inl s' => exact k2
    | inr t => exact k2) xs s o ρ h h2
  obtain ⟨q, k1, k2⟩ := k
  refine ⟨q, k1, ?_⟩
  cases o with
  | inl s' => exact k2
  | inr t => exact k2
def memB [DecidableEq α] (x : α) (xs : List α) : Bool := decide (x ∈ xs)
theorem mInL [DecidableEq α] {m : Nat} (C : EqC m fa) (h : m + 1 ≤ 64) {x : α} {xs : List α} (h1 : ev c e ρ = some ((fl, fa x), ρ1)) (h2 : ev c f ρ1 = some ((fl', eL fa xs), ρ2)) (k1 : (read? fl && okBo fl f) = true := by rfl) (k2 : read? fl' = true := by rfl) :
    ev c (.cmp .inn e f) ρ = some ((.sh, .bool (memB x xs)), ρ2) := cInL C h h1 h2 k1 k2
theorem mNinL [DecidableEq α] {m : Nat} (C : EqC m fa) (h : m + 1 ≤ 64) {x : α} {xs : List α} (h1 : ev c e ρ = some ((fl, fa x), ρ1)) (h2 : ev c f ρ1 = some ((fl', eL fa xs), ρ2)) (k1 : (read? fl && okBo fl f) = true := by rfl) (k2 : read? fl' = true := by rfl) :
    ev c (.cmp .nin e f) ρ = some ((.sh, .bool (!memB x xs)), ρ2) := cNinL C h h1 h2 k1 k2
theorem unO {x : Option α} {p : α} (h : x = some p) (h1 : ev c e ρ = some ((fl, eO fa x), ρ1)) : ev c e ρ = some ((fl, fa p), ρ1) := by
  subst h
  exact h1
def toP4 : List α → Option (α × α × α × α)
  | [a, b, c, d] => some (a, b, c, d)
  | _ => none
theorem toP4_ {xs : List α} {p : α × α × α × α} (h : toP4 xs = some p) (h1 : ev c e ρ = some ((fl, eT fa xs), ρ1)) : ev c e ρ = some ((fl, eP4 fa fa fa fa p), ρ1) := by
  unfold toP4 at h
  split at h
  · cases h
    exact h1
  · cases h
end
end Mir

end
section
set_option Elab.async false
set_option linter.all false
set_option maxRecDepth 100000
set_option maxHeartbeats 0
namespace K71
open PySem PySem.Spec PyProof.Rows L2 Mini
def top (i : Nat) : Stmt := PySem.Challenge.pw_leastwholes_k71_whole_squares_and_quadru.main.body.getD i (.Pass ⟨0, 0, 0, 0⟩)
def dd (n : Str) (i : Nat) : He.DefD := ⟨(n, none), n, n, defArgs (top i), defBody (top i), defScope (top i), [], []⟩
def fn0 : List He.DefD := [dd "whole_root" 1, dd "divisors_of" 3, dd "sign_by_four" 4, dd "signs_by_four" 5, dd "count_two_squares" 6, dd "has_two_squares" 7, dd "odd_part" 8, dd "count_four_squares" 9, dd "odd_divisors" 11, dd "odd_quadruples" 12, dd "quadruple_sign" 13, dd "pairs_exchanged" 14, dd "turned_quadruple" 15, dd "turned_down" 16, dd "signs_added" 17, dd "odd_tuples" 18, dd "doubled" 19, dd "halved" 20, dd "_law_source" 22, dd "_law_pick" 23, dd "_law_quadruples" 24, dd "_law_sign" 25, dd "_law_pairs" 26, dd "law" 27]
def fn : List He.DefD := fn0
def fa0 : List He.Fa := [.glo "whole_root", .glo "divisors_of", .glo "sign_by_four", .glo "signs_by_four", .glo "count_two_squares", .glo "has_two_squares", .glo "odd_part", .glo "count_four_squares", .glo "odd_divisors", .glo "odd_quadruples", .glo "quadruple_sign", .glo "pairs_exchanged", .glo "turned_quadruple", .glo "turned_down", .glo "signs_added", .glo "odd_tuples", .glo "doubled", .glo "halved", .glo "_law_source", .glo "_law_pick", .glo "_law_quadruples", .glo "_law_sign", .glo "_law_pairs", .glo "law", .free "len"]
def fa1 : List He.Fa := [.free "abs", .free "tuple", .free "list", .free "sum", .free "sorted", .free "int", .free "str", .free "repr", .free "all", .free "any", .free "max", .free "min", .free "dict", .free "range", .free "enumerate", .free "zip"]
def fa : List He.Fa := fa0 ++ fa1
def names0 : List Str := ["whole_root", "divisors_of", "sign_by_four", "signs_by_four", "count_two_squares", "has_two_squares", "odd_part", "count_four_squares", "odd_divisors", "odd_quadruples", "quadruple_sign", "pairs_exchanged", "turned_quadruple", "turned_down", "signs_added", "odd_tuples", "doubled", "halved", "_law_source", "_law_pick", "_law_quadruples", "_law_sign", "_law_pairs"]
def names : List Str := names0
abbrev R : PySem.W.OpenRow := PySem.W.OpenLaw.row PySem.Challenge.rw_leastwholes_k71_whole_squares_and_quadru
abbrev hk : PySem.W.Hook := hookX fa fn
abbrev q : Program := PySem.W.view R.prog [27]
section
open PySem.W PySem.Calls HandSHeadRun
theorem c1 (w : World) (os : OsState) : (stX R 20000 w os).map (fun s => looksF R.prog (boot_heap w.params) s.abs) = some true := by
  kernel_rfl
theorem c2 (w : World) (os : OsState) : (stX R 20000 w os).map (fun s => seenQ q names (importedModules R.prog.main.body) (fun s => xlAt q [] s && recOk R.toRowW.records s) s.abs) = some (openGood q names) := by
  kernel_rfl
theorem c3 (w : World) (os : OsState) : (stX R 20000 w os).map (obX fa fn) = some (He.valD fn) := by
  kernel_rfl
theorem run (w : World) : RunEq R q hk (obX fa fn) 20000 names w := runX (c1 w) (c2 w) (c3 w)
end
/-! ### the defs -/
def p_whole_root_0 : E := (.cmp .le (.bin .mul (.v 2) (.v 2)) (.v 0))
def p_whole_root_1 : Ss := (.cons (.asg (.nm 2) (.bin .mul (.int 2) (.v 2))) .nil)
def p_whole_root_2 : E := (.cmp .gt (.bin .sub (.v 2) (.v 1)) (.int 1))
def p_whole_root_3 : Ss := (.cons (.asg (.nm 3) (.bin .fdiv (.bin .add (.v 1) (.v 2)) (.int 2))) (.cons (.ifs (.cmp .le (.bin .mul (.v 3) (.v 3)) (.v 0)) (.cons (.asg (.nm 1) (.sh 3)) .nil) (.cons (.asg (.nm 2) (.sh 3)) .nil)) .nil))
def d_whole_root : Df := ⟨["number"], ["number", "low", "high", "middle"],
  (.cons (.asg (.tp (.cons (.nm 1) (.cons (.nm 2) .nil))) (.tup (.cons (.int 0) (.cons (.int 1) .nil)))) (.cons (.whl p_whole_root_0 p_whole_root_1) (.cons (.whl p_whole_root_2 p_whole_root_3) (.cons (.ret (.mv 1)) .nil))))⟩
def p_divisors_of_0 : E := (.cmp .eq (.bin .mod (.v 0) (.v 3)) (.int 0))
def p_divisors_of_1 : E := (.sh 3)
def p_divisors_of_2 : E := (.cmp .ne (.bin .mul (.v 3) (.v 3)) (.v 0))
def p_divisors_of_3 : E := (.bin .fdiv (.v 0) (.v 3))
def d_divisors_of : Df := ⟨["m"], ["m", "low", "high", "d"],
  (.cons (.asg (.nm 1) (.compIf p_divisors_of_1 (.nm 3) (.rng2 (.int 1) (.bin .add (.call "whole_root" (.cons (.sh 0) .nil)) (.int 1))) [3] p_divisors_of_0)) (.cons (.asg (.nm 2) (.compIf p_divisors_of_3 (.nm 3) (.e (.rev (.v 1))) [3] p_divisors_of_2)) (.cons (.ret (.b1 .tuple (.bin .add (.v 1) (.v 2)))) .nil)))⟩
def d_sign_by_four : Df := ⟨["d"], ["d"],
  (.cons (.ret (.idx (.tup (.cons (.int 0) (.cons (.int 1) (.cons (.int 0) (.cons (.neg (.int 1)) .nil))))) (.bin .mod (.v 0) (.int 4)))) .nil)⟩
def p_signs_by_four_0 : E := (.call "sign_by_four" (.cons (.sh 1) .nil))
def d_signs_by_four : Df := ⟨["m"], ["m", "d"],
  (.cons (.ret (.b1 .sum (.comp p_signs_by_four_0 (.nm 1) (.e (.call "divisors_of" (.cons (.sh 0) .nil))) [1]))) .nil)⟩
def d_count_two_squares : Df := ⟨["m"], ["m"],
  (.cons (.ifs (.cmp .eq (.v 0) (.int 0)) (.cons (.ret (.int 1)) .nil) .nil) (.cons (.ret (.bin .mul (.int 4) (.call "signs_by_four" (.cons (.sh 0) .nil)))) .nil))⟩
def d_has_two_squares : Df := ⟨["m"], ["m"],
  (.cons (.ret (.cmp .gt (.call "signs_by_four" (.cons (.sh 0) .nil)) (.int 0))) .nil)⟩
def p_odd_part_0 : E := (.cmp .eq (.bin .mod (.v 0) (.int 2)) (.int 0))
def p_odd_part_1 : Ss := (.cons (.asg (.nm 0) (.bin .fdiv (.v 0) (.int 2))) .nil)
def d_odd_part : Df := ⟨["m"], ["m"],
  (.cons (.whl p_odd_part_0 p_odd_part_1) (.cons (.ret (.mv 0)) .nil))⟩
def d_count_four_squares : Df := ⟨["m"], ["m", "total"],
  (.cons (.ifs (.cmp .eq (.v 0) (.int 0)) (.cons (.ret (.int 1)) .nil) .nil) (.cons (.asg (.nm 1) (.b1 .sum (.call "divisors_of" (.cons (.call "odd_part" (.cons (.sh 0) .nil)) .nil)))) (.cons (.ifs (.cmp .eq (.bin .mod (.v 0) (.int 2)) (.int 1)) (.cons (.ret (.bin .mul (.int 8) (.v 1))) .nil) .nil) (.cons (.ret (.bin .mul (.int 24) (.v 1))) .nil))))⟩
def p_odd_divisors_0 : E := (.cmp .eq (.bin .mod (.v 1) (.int 2)) (.int 1))
def p_odd_divisors_1 : E := (.sh 1)
def d_odd_divisors : Df := ⟨["number"], ["number", "d"],
  (.cons (.ret (.compIf p_odd_divisors_1 (.nm 1) (.e (.call "divisors_of" (.cons (.sh 0) .nil))) [1] p_odd_divisors_0)) .nil)⟩
def p_odd_quadruples_0 : E := (.tup (.cons (.sh 4) (.cons (.bin .fdiv (.v 2) (.v 4)) (.cons (.sh 5) (.cons (.bin .fdiv (.v 3) (.v 5)) .nil)))))
def p_odd_quadruples_1 : Ss := (.cons (.exp (.ext 1 (.comp p_odd_quadruples_0 (.nm 5) (.e (.call "odd_divisors" (.cons (.sh 3) .nil))) [5]))) .nil)
def p_odd_quadruples_2 : Ss := (.cons (.asg (.nm 3) (.bin .sub (.bin .mul (.int 2) (.v 0)) (.v 2))) (.cons (.for_ (.nm 4) (.e (.call "odd_divisors" (.cons (.sh 2) .nil))) p_odd_quadruples_1) .nil))
def d_odd_quadruples : Df := ⟨["m"], ["m", "found", "first", "late", "d", "f"],
  (.cons (.asg (.nm 1) (.lst .nil)) (.cons (.for_ (.nm 2) (.rng3 (.int 1) (.bin .mul (.int 2) (.v 0)) (.int 2)) p_odd_quadruples_2) (.cons (.ret (.b1 .tuple (.b1 .sorted (.v 1)))) .nil)))⟩
def d_quadruple_sign : Df := ⟨["one"], ["one", "half"],
  (.cons (.asg (.nm 1) (.bin .fdiv (.bin .sub (.idx (.v 0) (.int 0)) (.idx (.v 0) (.int 2))) (.int 2))) (.cons (.ifs (.cmp .eq (.bin .mod (.v 1) (.int 2)) (.int 0)) (.cons (.ret (.int 1)) .nil) .nil) (.cons (.ret (.neg (.int 1))) .nil)))⟩
def d_pairs_exchanged : Df := ⟨["one"], ["one"],
  (.cons (.ret (.tup (.cons (.idx (.v 0) (.int 2)) (.cons (.idx (.v 0) (.int 3)) (.cons (.idx (.v 0) (.int 0)) (.cons (.idx (.v 0) (.int 1)) .nil)))))) .nil)⟩
def d_turned_quadruple : Df := ⟨["one"], ["one"],
  (.cons (.ifs (.cmp .lt (.idx (.v 0) (.int 0)) (.idx (.v 0) (.int 2))) (.cons (.ret (.call "pairs_exchanged" (.cons (.call "turned_down" (.cons (.call "pairs_exchanged" (.cons (.sh 0) .nil)) .nil)) .nil))) .nil) .nil) (.cons (.ret (.call "turned_down" (.cons (.sh 0) .nil))) .nil))⟩
def d_turned_down : Df := ⟨["one"], ["one", "d", "e", "f", "g", "apart", "both", "q"],
  (.cons (.asg (.tp (.cons (.nm 1) (.cons (.nm 2) (.cons (.nm 3) (.cons (.nm 4) .nil))))) (.sh 0)) (.cons (.par (.cons (.nm 5) (.cons (.nm 6) .nil)) (.cons (.bin .sub (.v 1) (.v 3)) (.cons (.bin .add (.v 2) (.v 4)) .nil))) (.cons (.asg (.nm 7) (.bin .fdiv (.v 3) (.v 5))) (.cons (.ret (.tup (.cons (.bin .add (.v 2) (.bin .mul (.bin .add (.v 7) (.int 1)) (.v 6))) (.cons (.bin .sub (.v 3) (.bin .mul (.v 7) (.v 5))) (.cons (.bin .add (.v 2) (.bin .mul (.v 7) (.v 6))) (.cons (.bin .sub (.bin .mul (.bin .add (.v 7) (.int 1)) (.v 5)) (.v 3)) .nil)))))) .nil))))⟩
def p_signs_added_0 : E := (.call "quadruple_sign" (.cons (.sh 1) .nil))
def d_signs_added : Df := ⟨["m"], ["m", "one"],
  (.cons (.ret (.b1 .sum (.comp p_signs_added_0 (.nm 1) (.e (.call "odd_quadruples" (.cons (.sh 0) .nil))) [1]))) .nil)⟩
def d_odd_tuples : Df := ⟨["m"], ["m"],
  (.cons (.ret (.b1 .sum (.call "divisors_of" (.cons (.sh 0) .nil)))) .nil)⟩
def d_doubled : Df := ⟨["one"], ["one", "x", "y", "z", "w"],
  (.cons (.asg (.tp (.cons (.nm 1) (.cons (.nm 2) (.cons (.nm 3) (.cons (.nm 4) .nil))))) (.sh 0)) (.cons (.ret (.tup (.cons (.bin .add (.v 1) (.v 2)) (.cons (.bin .sub (.v 1) (.v 2)) (.cons (.bin .add (.v 3) (.v 4)) (.cons (.bin .sub (.v 3) (.v 4)) .nil)))))) .nil))⟩
def d_halved : Df := ⟨["one"], ["one", "x", "y", "z", "w"],
  (.cons (.asg (.tp (.cons (.nm 1) (.cons (.nm 2) (.cons (.nm 3) (.cons (.nm 4) .nil))))) (.sh 0)) (.cons (.ifs (.cmp .eq (.bin .mod (.bin .add (.v 1) (.v 2)) (.int 2)) (.int 1)) (.cons (.ret .non) .nil) .nil) (.cons (.ifs (.cmp .eq (.bin .mod (.bin .add (.v 3) (.v 4)) (.int 2)) (.int 1)) (.cons (.ret .non) .nil) .nil) (.cons (.ret (.tup (.cons (.bin .fdiv (.bin .add (.v 1) (.v 2)) (.int 2)) (.cons (.bin .fdiv (.bin .sub (.v 1) (.v 2)) (.int 2)) (.cons (.bin .fdiv (.bin .add (.v 3) (.v 4)) (.int 2)) (.cons (.bin .fdiv (.bin .sub (.v 3) (.v 4)) (.int 2)) .nil)))))) .nil))))⟩
def p__law_source_0 : Ss := (.cons (.asg (.nm 1) (.bin .mod (.b1 .int (.bin .add (.bin .add (.bin .mul (.v 1) (.int 69069)) (.bin .mul (.v 2) (.int 31))) (.int 5))) (.int 2147483629))) .nil)
def p__law_source_1 : E := (.b1 .abs (.v 2))
def d__law_source : Df := ⟨["script"], ["script", "stirred", "cell", "cells"],
  (.cons (.asg (.nm 1) (.int 11)) (.cons (.for_ (.nm 2) (.scr 0) p__law_source_0) (.cons (.asg (.nm 3) (.comp p__law_source_1 (.nm 2) (.scr 0) [2])) (.cons (.ret (.mkS (.rev (.v 3)) (.sh 1))) .nil))))⟩
def d__law_pick : Df := ⟨["source", "most"], ["source", "most", "cells", "others", "lap", "stirred"],
  (.cons (.ifs (.cmp .lt (.v 1) (.int 2)) (.cons (.ret (.int 0)) .nil) .nil) (.pull 0 2 (.cons (.asg (.nm 3) (.fl 0 "left")) (.cons (.ifs (.cmp .gt (.v 3) (.int 1)) (.cons (.setf 0 "left" (.bin .fdiv (.v 3) (.v 1))) (.cons (.ret (.bin .mod (.b1 .int (.v 3)) (.v 1))) .nil)) .nil) (.cons (.setf 0 "turn" (.bin .add (.fl 0 "turn") (.int 1))) (.cons (.asg (.nm 4) (.fl 0 "turn")) (.cons (.asg (.nm 5) (.bin .mod (.b1 .int (.bin .add (.fl 0 "mixed") (.bin .mul (.v 4) (.int 104729)))) (.int 998244353))) (.cons (.asg (.nm 5) (.bin .mod (.b1 .int (.bin .add (.bin .mul (.v 5) (.v 5)) (.bin .mul (.v 4) (.int 17)))) (.int 2147483647))) (.cons (.ret (.bin .mod (.b1 .int (.bin .fdiv (.v 5) (.int 16))) (.v 1))) .nil)))))))))⟩
def p__law_quadruples_0 : E := (.cmp .lt (.bin .mul (.v 2) (.v 3)) (.bin .mul (.int 2) (.v 0)))
def p__law_quadruples_1 : E := (.sh 3)
def p__law_quadruples_2 : E := (.cmp .eq (.bin .mod (.b1 .int (.v 4)) (.v 6)) (.int 0))
def p__law_quadruples_3 : E := (.tup (.cons (.sh 2) (.cons (.sh 3) (.cons (.sh 6) (.cons (.bin .fdiv (.v 4) (.v 6)) .nil)))))
def p__law_quadruples_4 : Ss := (.cons (.asg (.nm 4) (.bin .sub (.bin .mul (.int 2) (.v 0)) (.bin .mul (.v 2) (.v 3)))) (.cons (.asg (.nm 1) (.bin .add (.sh 1) (.compIf p__law_quadruples_3 (.nm 6) (.rng3 (.int 1) (.bin .add (.v 4) (.int 1)) (.int 2)) [6] p__law_quadruples_2))) .nil))
def p__law_quadruples_5 : Ss := (.cons (.for_ (.nm 3) (.e (.compIf p__law_quadruples_1 (.nm 3) (.rng3 (.int 1) (.bin .mul (.int 2) (.v 0)) (.int 2)) [3] p__law_quadruples_0)) p__law_quadruples_4) .nil)
def p__law_quadruples_6 : E := (.cmp .eq (.bin .mod (.b1 .int (.idx (.v 5) (.int 3))) (.int 2)) (.int 1))
def p__law_quadruples_7 : E := (.sh 5)
def d__law_quadruples : Df := ⟨["m"], ["m", "found", "d", "e", "late", "one", "f"],
  (.cons (.asg (.nm 1) (.lst .nil)) (.cons (.for_ (.nm 2) (.rng3 (.int 1) (.bin .mul (.int 2) (.v 0)) (.int 2)) p__law_quadruples_5) (.cons (.ret (.compIf p__law_quadruples_7 (.nm 5) (.e (.b1 .sorted (.v 1))) [5] p__law_quadruples_6)) .nil)))⟩
def d__law_sign : Df := ⟨["one"], ["one"],
  (.cons (.ret (.bin .sub (.int 1) (.bin .mul (.int 2) (.bin .mod (.b1 .int (.bin .fdiv (.bin .sub (.idx (.v 0) (.int 0)) (.idx (.v 0) (.int 2))) (.int 2))) (.int 2))))) .nil)⟩
def p__law_pairs_0 : E := (.bin .mul (.v 3) (.get2 (.v 1) (.bin .sub (.v 0) (.v 2)) (.int 0)))
def d__law_pairs : Df := ⟨["m", "some"], ["m", "some", "square", "many"],
  (.cons (.ret (.b1 .sum (.comp p__law_pairs_0 (.tp (.cons (.nm 2) (.cons (.nm 3) .nil))) (.items 1) [2, 3]))) .nil)⟩
def p_law_0 : E := (.cmp .eq (.bin .mod (.b1 .int (.v 2)) (.v 19)) (.int 0))
def p_law_1 : E := (.sh 19)
def p_law_2 : Ss := (.cons (.ifs (.cmp .ne (.b1 .repr (.call "quadruple_sign" (.cons (.sh 5) .nil))) (.b1 .repr (.call "_law_sign" (.cons (.sh 5) .nil)))) (.cons (.ret (.bl false)) .nil) .nil) (.cons (.ifs (.cmp .ne (.idx (.v 5) (.int 0)) (.idx (.v 5) (.int 2))) (.cons (.asg (.nm 6) (.call "turned_quadruple" (.cons (.sh 5) .nil))) (.cons (.ifs (.or (.cmp .nin (.v 6) (.v 3)) (.or (.cmp .eq (.call "_law_sign" (.cons (.sh 6) .nil)) (.call "_law_sign" (.cons (.sh 5) .nil))) (.cmp .ne (.call "turned_quadruple" (.cons (.sh 6) .nil)) (.v 5)))) (.cons (.ret (.bl false)) .nil) .nil) (.cons (.ifs (.or (.cmp .ne (.cmp .gt (.idx (.v 6) (.int 0)) (.idx (.v 6) (.int 2))) (.cmp .gt (.idx (.v 5) (.int 0)) (.idx (.v 5) (.int 2)))) (.cmp .ne (.b1 .abs (.bin .sub (.idx (.v 6) (.int 0)) (.idx (.v 6) (.int 2)))) (.bin .add (.idx (.v 5) (.int 1)) (.idx (.v 5) (.int 3))))) (.cons (.ret (.bl false)) .nil) .nil) .nil))) .nil) .nil))
def p_law_3 : E := (.call "_law_sign" (.cons (.sh 5) .nil))
def p_law_4 : E := (.bin .mul (.v 9) (.v 9))
def p_law_5 : Ss := (.cons (.setx 8 (.bin .add (.v 9) (.v 10)) (.bin .add (.get2 (.v 8) (.bin .add (.v 9) (.v 10)) (.int 0)) (.int 1))) .nil)
def p_law_6 : Ss := (.cons (.for_ (.nm 10) (.e (.sh 7)) p_law_5) .nil)
def p_law_7 : Ss := (.cons (.setx 12 (.bin .mul (.v 9) (.v 9)) (.int 2)) .nil)
def p_law_8 : Ss := (.cons (.setx 13 (.sh 14) (.call "_law_pairs" (.cons (.sh 14) (.cons (.sh 12) .nil)))) .nil)
def p_law_9 : E := (.cmp .eq (.bin .mod (.b1 .int (.v 11)) (.v 19)) (.int 0))
def p_law_10 : E := (.sh 19)
def p_law_11 : E := (.bin .sub (.call "_law_pick" (.cons (.io 1) (.cons (.int 200) .nil))) (.int 100))
def p_law_12 : E := (.bin .mul (.v 21) (.v 21))
def p_law_13 : E := (.bin .mul (.v 21) (.v 21))
def d_law : Df := ⟨["script"], ["script", "source", "m", "every", "divisors", "one", "late", "odd", "pairs", "x", "y", "k", "squares", "two", "s", "z", "w", "told", "fits", "d", "i", "a"],
  (.cons (.asg (.nm 1) (.call "_law_source" (.cons (.io 0) .nil))) (.cons (.asg (.nm 2) (.bin .add (.int 1) (.bin .mul (.int 2) (.call "_law_pick" (.cons (.io 1) (.cons (.int 14) .nil)))))) (.cons (.asg (.nm 3) (.call "_law_quadruples" (.cons (.sh 2) .nil))) (.cons (.asg (.nm 4) (.compIf p_law_1 (.nm 19) (.rng2 (.int 1) (.bin .add (.v 2) (.int 1))) [19] p_law_0)) (.cons (.ifs (.or (.cmp .ne (.b1 .repr (.call "odd_quadruples" (.cons (.sh 2) .nil))) (.b1 .repr (.b1 .tuple (.v 3)))) (.cmp .ne (.b1 .repr (.call "divisors_of" (.cons (.sh 2) .nil))) (.b1 .repr (.b1 .tuple (.v 4))))) (.cons (.ret (.bl false)) .nil) .nil) (.cons (.for_ (.nm 5) (.e (.sh 3)) p_law_2) (.cons (.ifs (.cmp .ne (.b1 .repr (.call "signs_added" (.cons (.sh 2) .nil))) (.b1 .repr (.b1 .sum (.comp p_law_3 (.nm 5) (.e (.sh 3)) [5])))) (.cons (.ret (.bl false)) .nil) .nil) (.cons (.par (.cons (.nm 7) (.cons (.nm 8) .nil)) (.cons (.comp p_law_4 (.nm 9) (.rng3 (.int 1) (.bin .add (.bin .mul (.int 2) (.v 2)) (.int 2)) (.int 2)) [9]) (.cons (.dict [] .nil) .nil))) (.cons (.for_ (.nm 9) (.e (.sh 7)) p_law_6) (.cons (.ifs (.cmp .ne (.b1 .repr (.call "odd_tuples" (.cons (.sh 2) .nil))) (.b1 .repr (.call "_law_pairs" (.cons (.bin .mul (.int 4) (.v 2)) (.cons (.sh 8) .nil))))) (.cons (.ret (.bl false)) .nil) .nil) (.cons (.asg (.nm 11) (.call "_law_pick" (.cons (.io 1) (.cons (.int 200) .nil)))) (.cons (.asg (.nm 12) (.dict [.inl 0] (.cons (.int 1) .nil))) (.cons (.for_ (.nm 9) (.rng2 (.int 1) (.int 15)) p_law_7) (.cons (.asg (.nm 13) (.dict [] .nil)) (.cons (.for_ (.nm 14) (.rng1 (.bin .add (.v 11) (.int 1))) p_law_8) (.cons (.ifs (.cmp .ne (.b1 .repr (.lst (.cons (.call "count_two_squares" (.cons (.sh 11) .nil)) (.cons (.call "count_four_squares" (.cons (.sh 11) .nil)) .nil)))) (.b1 .repr (.lst (.cons (.idx (.v 13) (.v 11)) (.cons (.call "_law_pairs" (.cons (.sh 11) (.cons (.sh 13) .nil))) .nil))))) (.cons (.ret (.bl false)) .nil) .nil) (.cons (.ifs (.and (.cmp .gt (.v 11) (.int 0)) (.cmp .ne (.b1 .repr (.call "has_two_squares" (.cons (.sh 11) .nil))) (.b1 .repr (.cmp .gt (.idx (.v 13) (.v 11)) (.int 0))))) (.cons (.ret (.bl false)) .nil) .nil) (.cons (.ifs (.and (.cmp .gt (.v 11) (.int 0)) (.cmp .ne (.b1 .repr (.call "divisors_of" (.cons (.sh 11) .nil))) (.b1 .repr (.b1 .tuple (.compIf p_law_10 (.nm 19) (.rng2 (.int 1) (.bin .add (.v 11) (.int 1))) [19] p_law_9))))) (.cons (.ret (.bl false)) .nil) .nil) (.cons (.asg (.nm 5) (.b1 .tuple (.comp p_law_11 (.nm 20) (.rng1 (.int 4)) [20]))) (.cons (.asg (.tp (.cons (.nm 9) (.cons (.nm 10) (.cons (.nm 15) (.cons (.nm 16) .nil))))) (.sh 5)) (.cons (.ifs (.or (.cmp .ne (.b1 .repr (.call "doubled" (.cons (.sh 5) .nil))) (.b1 .repr (.tup (.cons (.bin .add (.v 9) (.v 10)) (.cons (.bin .sub (.v 9) (.v 10)) (.cons (.bin .add (.v 15) (.v 16)) (.cons (.bin .sub (.v 15) (.v 16)) .nil))))))) (.cmp .ne (.call "halved" (.cons (.call "doubled" (.cons (.sh 5) .nil)) .nil)) (.v 5))) (.cons (.ret (.bl false)) .nil) .nil) (.cons (.ifs (.cmp .ne (.b1 .sum (.comp p_law_12 (.nm 21) (.e (.call "doubled" (.cons (.sh 5) .nil))) [21])) (.bin .mul (.int 2) (.b1 .sum (.comp p_law_13 (.nm 21) (.e (.sh 5)) [21])))) (.cons (.ret (.bl false)) .nil) .nil) (.cons (.asg (.nm 17) (.call "halved" (.cons (.sh 5) .nil))) (.cons (.asg (.nm 18) (.and (.cmp .eq (.bin .mod (.b1 .int (.bin .sub (.v 9) (.v 10))) (.int 2)) (.int 0)) (.cmp .eq (.bin .mod (.b1 .int (.bin .sub (.v 15) (.v 16))) (.int 2)) (.int 0)))) (.cons (.ret (.and (.cmp .eq (.cmp .notN (.v 17) .non) (.v 18)) (.or (.cmp .isN (.v 17) .non) (.cmp .eq (.call "doubled" (.cons (.sh 17) .nil)) (.v 5))))) .nil)))))))))))))))))))))))))⟩
def rows : List (Str × Df) := [("whole_root", d_whole_root), ("divisors_of", d_divisors_of), ("sign_by_four", d_sign_by_four), ("signs_by_four", d_signs_by_four), ("count_two_squares", d_count_two_squares), ("has_two_squares", d_has_two_squares), ("odd_part", d_odd_part), ("count_four_squares", d_count_four_squares), ("odd_divisors", d_odd_divisors), ("odd_quadruples", d_odd_quadruples), ("quadruple_sign", d_quadruple_sign), ("pairs_exchanged", d_pairs_exchanged), ("turned_quadruple", d_turned_quadruple), ("turned_down", d_turned_down), ("signs_added", d_signs_added), ("odd_tuples", d_odd_tuples), ("doubled", d_doubled), ("halved", d_halved), ("_law_source", d__law_source), ("_law_pick", d__law_pick), ("_law_quadruples", d__law_quadruples), ("_law_sign", d__law_sign), ("_law_pairs", d__law_pairs), ("law", d_law)]
def tbl (f : Str) : Option Df := rows.lookup f
def cl (k : Nat) : CallS := callF tbl (fun _ _ => none) 100000 k
section
variable {K : PySem.W.Frag} {h : Heap} {mg : Str → Option Value}
theorem sc_whole_root : FnScope d_whole_root.N d_whole_root.ps (defScope (top 1)) := ⟨rfl, rfl, rfl, by decide +kernel, rfl, by decide +kernel, by decide +kernel⟩
theorem ck_whole_root : chkSs d_whole_root.N (defScope (top 1)) d_whole_root.body (defBody (top 1)) = true := by decide +kernel
theorem ok_whole_root (X : K.In h) (G : h.Ns mainGlobals mg) (c : He.SaysD fa fn K) : DefOk K mg "whole_root" d_whole_root := by
  obtain ⟨fd, F⟩ := c.def_ 0 (d := dd "whole_root" 1) rfl
  exact ⟨_, _, _, _, _, _, fd, He.glo_ok X G (c.fact 0 (f := .glo "whole_root") rfl), F, F.bindsN (fun _ _ _ _ _ _ us hl => match us, hl with | [_], _ => rfl), sc_whole_root, ck_whole_root⟩
theorem sc_divisors_of : FnScope d_divisors_of.N d_divisors_of.ps (defScope (top 3)) := ⟨rfl, rfl, rfl, by decide +kernel, rfl, by decide +kernel, by decide +kernel⟩
theorem ck_divisors_of : chkSs d_divisors_of.N (defScope (top 3)) d_divisors_of.body (defBody (top 3)) = true := by decide +kernel
theorem ok_divisors_of (X : K.In h) (G : h.Ns mainGlobals mg) (c : He.SaysD fa fn K) : DefOk K mg "divisors_of" d_divisors_of := by
  obtain ⟨fd, F⟩ := c.def_ 1 (d := dd "divisors_of" 3) rfl
  exact ⟨_, _, _, _, _, _, fd, He.glo_ok X G (c.fact 1 (f := .glo "divisors_of") rfl), F, F.bindsN (fun _ _ _ _ _ _ us hl => match us, hl with | [_], _ => rfl), sc_divisors_of, ck_divisors_of⟩
theorem sc_sign_by_four : FnScope d_sign_by_four.N d_sign_by_four.ps (defScope (top 4)) := ⟨rfl, rfl, rfl, by decide +kernel, rfl, by decide +kernel, by decide +kernel⟩
theorem ck_sign_by_four : chkSs d_sign_by_four.N (defScope (top 4)) d_sign_by_four.body (defBody (top 4)) = true := by decide +kernel
theorem ok_sign_by_four (X : K.In h) (G : h.Ns mainGlobals mg) (c : He.SaysD fa fn K) : DefOk K mg "sign_by_four" d_sign_by_four := by
  obtain ⟨fd, F⟩ := c.def_ 2 (d := dd "sign_by_four" 4) rfl
  exact ⟨_, _, _, _, _, _, fd, He.glo_ok X G (c.fact 2 (f := .glo "sign_by_four") rfl), F, F.bindsN (fun _ _ _ _ _ _ us hl => match us, hl with | [_], _ => rfl), sc_sign_by_four, ck_sign_by_four⟩
theorem sc_signs_by_four : FnScope d_signs_by_four.N d_signs_by_four.ps (defScope (top 5)) := ⟨rfl, rfl, rfl, by decide +kernel, rfl, by decide +kernel, by decide +kernel⟩
theorem ck_signs_by_four : chkSs d_signs_by_four.N (defScope (top 5)) d_signs_by_four.body (defBody (top 5)) = true := by decide +kernel
theorem ok_signs_by_four (X : K.In h) (G : h.Ns mainGlobals mg) (c : He.SaysD fa fn K) : DefOk K mg "signs_by_four" d_signs_by_four := by
  obtain ⟨fd, F⟩ := c.def_ 3 (d := dd "signs_by_four" 5) rfl
  exact ⟨_, _, _, _, _, _, fd, He.glo_ok X G (c.fact 3 (f := .glo "signs_by_four") rfl), F, F.bindsN (fun _ _ _ _ _ _ us hl => match us, hl with | [_], _ => rfl), sc_signs_by_four, ck_signs_by_four⟩
theorem sc_count_two_squares : FnScope d_count_two_squares.N d_count_two_squares.ps (defScope (top 6)) := ⟨rfl, rfl, rfl, by decide +kernel, rfl, by decide +kernel, by decide +kernel⟩
theorem ck_count_two_squares : chkSs d_count_two_squares.N (defScope (top 6)) d_count_two_squares.body (defBody (top 6)) = true := by decide +kernel
theorem ok_count_two_squares (X : K.In h) (G : h.Ns mainGlobals mg) (c : He.SaysD fa fn K) : DefOk K mg "count_two_squares" d_count_two_squares := by
  obtain ⟨fd, F⟩ := c.def_ 4 (d := dd "count_two_squares" 6) rfl
  exact ⟨_, _, _, _, _, _, fd, He.glo_ok X G (c.fact 4 (f := .glo "count_two_squares") rfl), F, F.bindsN (fun _ _ _ _ _ _ us hl => match us, hl with | [_], _ => rfl), sc_count_two_squares, ck_count_two_squares⟩
theorem sc_has_two_squares : FnScope d_has_two_squares.N d_has_two_squares.ps (defScope (top 7)) := ⟨rfl, rfl, rfl, by decide +kernel, rfl, by decide +kernel, by decide +kernel⟩
theorem ck_has_two_squares : chkSs d_has_two_squares.N (defScope (top 7)) d_has_two_squares.body (defBody (top 7)) = true := by decide +kernel
theorem ok_has_two_squares (X : K.In h) (G : h.Ns mainGlobals mg) (c : He.SaysD fa fn K) : DefOk K mg "has_two_squares" d_has_two_squares := by
  obtain ⟨fd, F⟩ := c.def_ 5 (d := dd "has_two_squares" 7) rfl
  exact ⟨_, _, _, _, _, _, fd, He.glo_ok X G (c.fact 5 (f := .glo "has_two_squares") rfl), F, F.bindsN (fun _ _ _ _ _ _ us hl => match us, hl with | [_], _ => rfl), sc_has_two_squares, ck_has_two_squares⟩
theorem sc_odd_part : FnScope d_odd_part.N d_odd_part.ps (defScope (top 8)) := ⟨rfl, rfl, rfl, by decide +kernel, rfl, by decide +kernel, by decide +kernel⟩
theorem ck_odd_part : chkSs d_odd_part.N (defScope (top 8)) d_odd_part.body (defBody (top 8)) = true := by decide +kernel
theorem ok_odd_part (X : K.In h) (G : h.Ns mainGlobals mg) (c : He.SaysD fa fn K) : DefOk K mg "odd_part" d_odd_part := by
  obtain ⟨fd, F⟩ := c.def_ 6 (d := dd "odd_part" 8) rfl
  exact ⟨_, _, _, _, _, _, fd, He.glo_ok X G (c.fact 6 (f := .glo "odd_part") rfl), F, F.bindsN (fun _ _ _ _ _ _ us hl => match us, hl with | [_], _ => rfl), sc_odd_part, ck_odd_part⟩
theorem sc_count_four_squares : FnScope d_count_four_squares.N d_count_four_squares.ps (defScope (top 9)) := ⟨rfl, rfl, rfl, by decide +kernel, rfl, by decide +kernel, by decide +kernel⟩
theorem ck_count_four_squares : chkSs d_count_four_squares.N (defScope (top 9)) d_count_four_squares.body (defBody (top 9)) = true := by decide +kernel
theorem ok_count_four_squares (X : K.In h) (G : h.Ns mainGlobals mg) (c : He.SaysD fa fn K) : DefOk K mg "count_four_squares" d_count_four_squares := by
  obtain ⟨fd, F⟩ := c.def_ 7 (d := dd "count_four_squares" 9) rfl
  exact ⟨_, _, _, _, _, _, fd, He.glo_ok X G (c.fact 7 (f := .glo "count_four_squares") rfl), F, F.bindsN (fun _ _ _ _ _ _ us hl => match us, hl with | [_], _ => rfl), sc_count_four_squares, ck_count_four_squares⟩
theorem sc_odd_divisors : FnScope d_odd_divisors.N d_odd_divisors.ps (defScope (top 11)) := ⟨rfl, rfl, rfl, by decide +kernel, rfl, by decide +kernel, by decide +kernel⟩
theorem ck_odd_divisors : chkSs d_odd_divisors.N (defScope (top 11)) d_odd_divisors.body (defBody (top 11)) = true := by decide +kernel
theorem ok_odd_divisors (X : K.In h) (G : h.Ns mainGlobals mg) (c : He.SaysD fa fn K) : DefOk K mg "odd_divisors" d_odd_divisors := by
  obtain ⟨fd, F⟩ := c.def_ 8 (d := dd "odd_divisors" 11) rfl
  exact ⟨_, _, _, _, _, _, fd, He.glo_ok X G (c.fact 8 (f := .glo "odd_divisors") rfl), F, F.bindsN (fun _ _ _ _ _ _ us hl => match us, hl with | [_], _ => rfl), sc_odd_divisors, ck_odd_divisors⟩
theorem sc_odd_quadruples : FnScope d_odd_quadruples.N d_odd_quadruples.ps (defScope (top 12)) := ⟨rfl, rfl, rfl, by decide +kernel, rfl, by decide +kernel, by decide +kernel⟩
theorem ck_odd_quadruples : chkSs d_odd_quadruples.N (defScope (top 12)) d_odd_quadruples.body (defBody (top 12)) = true := by decide +kernel
theorem ok_odd_quadruples (X : K.In h) (G : h.Ns mainGlobals mg) (c : He.SaysD fa fn K) : DefOk K mg "odd_quadruples" d_odd_quadruples := by
  obtain ⟨fd, F⟩ := c.def_ 9 (d := dd "odd_quadruples" 12) rfl
  exact ⟨_, _, _, _, _, _, fd, He.glo_ok X G (c.fact 9 (f := .glo "odd_quadruples") rfl), F, F.bindsN (fun _ _ _ _ _ _ us hl => match us, hl with | [_], _ => rfl), sc_odd_quadruples, ck_odd_quadruples⟩
theorem sc_quadruple_sign : FnScope d_quadruple_sign.N d_quadruple_sign.ps (defScope (top 13)) := ⟨rfl, rfl, rfl, by decide +kernel, rfl, by decide +kernel, by decide +kernel⟩
theorem ck_quadruple_sign : chkSs d_quadruple_sign.N (defScope (top 13)) d_quadruple_sign.body (defBody (top 13)) = true := by decide +kernel
theorem ok_quadruple_sign (X : K.In h) (G : h.Ns mainGlobals mg) (c : He.SaysD fa fn K) : DefOk K mg "quadruple_sign" d_quadruple_sign := by
  obtain ⟨fd, F⟩ := c.def_ 10 (d := dd "quadruple_sign" 13) rfl
  exact ⟨_, _, _, _, _, _, fd, He.glo_ok X G (c.fact 10 (f := .glo "quadruple_sign") rfl), F, F.bindsN (fun _ _ _ _ _ _ us hl => match us, hl with | [_], _ => rfl), sc_quadruple_sign, ck_quadruple_sign⟩
theorem sc_pairs_exchanged : FnScope d_pairs_exchanged.N d_pairs_exchanged.ps (defScope (top 14)) := ⟨rfl, rfl, rfl, by decide +kernel, rfl, by decide +kernel, by decide +kernel⟩
theorem ck_pairs_exchanged : chkSs d_pairs_exchanged.N (defScope (top 14)) d_pairs_exchanged.body (defBody (top 14)) = true := by decide +kernel
theorem ok_pairs_exchanged (X : K.In h) (G : h.Ns mainGlobals mg) (c : He.SaysD fa fn K) : DefOk K mg "pairs_exchanged" d_pairs_exchanged := by
  obtain ⟨fd, F⟩ := c.def_ 11 (d := dd "pairs_exchanged" 14) rfl
  exact ⟨_, _, _, _, _, _, fd, He.glo_ok X G (c.fact 11 (f := .glo "pairs_exchanged") rfl), F, F.bindsN (fun _ _ _ _ _ _ us hl => match us, hl with | [_], _ => rfl), sc_pairs_exchanged, ck_pairs_exchanged⟩
theorem sc_turned_quadruple : FnScope d_turned_quadruple.N d_turned_quadruple.ps (defScope (top 15)) := ⟨rfl, rfl, rfl, by decide +kernel, rfl, by decide +kernel, by decide +kernel⟩
theorem ck_turned_quadruple : chkSs d_turned_quadruple.N (defScope (top 15)) d_turned_quadruple.body (defBody (top 15)) = true := by decide +kernel
theorem ok_turned_quadruple (X : K.In h) (G : h.Ns mainGlobals mg) (c : He.SaysD fa fn K) : DefOk K mg "turned_quadruple" d_turned_quadruple := by
  obtain ⟨fd, F⟩ := c.def_ 12 (d := dd "turned_quadruple" 15) rfl
  exact ⟨_, _, _, _, _, _, fd, He.glo_ok X G (c.fact 12 (f := .glo "turned_quadruple") rfl), F, F.bindsN (fun _ _ _ _ _ _ us hl => match us, hl with | [_], _ => rfl), sc_turned_quadruple, ck_turned_quadruple⟩
theorem sc_turned_down : FnScope d_turned_down.N d_turned_down.ps (defScope (top 16)) := ⟨rfl, rfl, rfl, by decide +kernel, rfl, by decide +kernel, by decide +kernel⟩
theorem ck_turned_down : chkSs d_turned_down.N (defScope (top 16)) d_turned_down.body (defBody (top 16)) = true := by decide +kernel
theorem ok_turned_down (X : K.In h) (G : h.Ns mainGlobals mg) (c : He.SaysD fa fn K) : DefOk K mg "turned_down" d_turned_down := by
  obtain ⟨fd, F⟩ := c.def_ 13 (d := dd "turned_down" 16) rfl
  exact ⟨_, _, _, _, _, _, fd, He.glo_ok X G (c.fact 13 (f := .glo "turned_down") rfl), F, F.bindsN (fun _ _ _ _ _ _ us hl => match us, hl with | [_], _ => rfl), sc_turned_down, ck_turned_down⟩
theorem sc_signs_added : FnScope d_signs_added.N d_signs_added.ps (defScope (top 17)) := ⟨rfl, rfl, rfl, by decide +kernel, rfl, by decide +kernel, by decide +kernel⟩
theorem ck_signs_added : chkSs d_signs_added.N (defScope (top 17)) d_signs_added.body (defBody (top 17)) = true := by decide +kernel
theorem ok_signs_added (X : K.In h) (G : h.Ns mainGlobals mg) (c : He.SaysD fa fn K) : DefOk K mg "signs_added" d_signs_added := by
  obtain ⟨fd, F⟩ := c.def_ 14 (d := dd "signs_added" 17) rfl
  exact ⟨_, _, _, _, _, _, fd, He.glo_ok X G (c.fact 14 (f := .glo "signs_added") rfl), F, F.bindsN (fun _ _ _ _ _ _ us hl => match us, hl with | [_], _ => rfl), sc_signs_added, ck_signs_added⟩
theorem sc_odd_tuples : FnScope d_odd_tuples.N d_odd_tuples.ps (defScope (top 18)) := ⟨rfl, rfl, rfl, by decide +kernel, rfl, by decide +kernel, by decide +kernel⟩
theorem ck_odd_tuples : chkSs d_odd_tuples.N (defScope (top 18)) d_odd_tuples.body (defBody (top 18)) = true := by decide +kernel
theorem ok_odd_tuples (X : K.In h) (G : h.Ns mainGlobals mg) (c : He.SaysD fa fn K) : DefOk K mg "odd_tuples" d_odd_tuples := by
  obtain ⟨fd, F⟩ := c.def_ 15 (d := dd "odd_tuples" 18) rfl
  exact ⟨_, _, _, _, _, _, fd, He.glo_ok X G (c.fact 15 (f := .glo "odd_tuples") rfl), F, F.bindsN (fun _ _ _ _ _ _ us hl => match us, hl with | [_], _ => rfl), sc_odd_tuples, ck_odd_tuples⟩
theorem sc_doubled : FnScope d_doubled.N d_doubled.ps (defScope (top 19)) := ⟨rfl, rfl, rfl, by decide +kernel, rfl, by decide +kernel, by decide +kernel⟩
theorem ck_doubled : chkSs d_doubled.N (defScope (top 19)) d_doubled.body (defBody (top 19)) = true := by decide +kernel
theorem ok_doubled (X : K.In h) (G : h.Ns mainGlobals mg) (c : He.SaysD fa fn K) : DefOk K mg "doubled" d_doubled := by
  obtain ⟨fd, F⟩ := c.def_ 16 (d := dd "doubled" 19) rfl
  exact ⟨_, _, _, _, _, _, fd, He.glo_ok X G (c.fact 16 (f := .glo "doubled") rfl), F, F.bindsN (fun _ _ _ _ _ _ us hl => match us, hl with | [_], _ => rfl), sc_doubled, ck_doubled⟩
theorem sc_halved : FnScope d_halved.N d_halved.ps (defScope (top 20)) := ⟨rfl, rfl, rfl, by decide +kernel, rfl, by decide +kernel, by decide +kernel⟩
theorem ck_halved : chkSs d_halved.N (defScope (top 20)) d_halved.body (defBody (top 20)) = true := by decide +kernel
theorem ok_halved (X : K.In h) (G : h.Ns mainGlobals mg) (c : He.SaysD fa fn K) : DefOk K mg "halved" d_halved := by
  obtain ⟨fd, F⟩ := c.def_ 17 (d := dd "halved" 20) rfl
  exact ⟨_, _, _, _, _, _, fd, He.glo_ok X G (c.fact 17 (f := .glo "halved") rfl), F, F.bindsN (fun _ _ _ _ _ _ us hl => match us, hl with | [_], _ => rfl), sc_halved, ck_halved⟩
theorem sc__law_source : FnScope d__law_source.N d__law_source.ps (defScope (top 22)) := ⟨rfl, rfl, rfl, by decide +kernel, rfl, by decide +kernel, by decide +kernel⟩
theorem ck__law_source : chkSs d__law_source.N (defScope (top 22)) d__law_source.body (defBody (top 22)) = true := by decide +kernel
theorem ok__law_source (X : K.In h) (G : h.Ns mainGlobals mg) (c : He.SaysD fa fn K) : DefOk K mg "_law_source" d__law_source := by
  obtain ⟨fd, F⟩ := c.def_ 18 (d := dd "_law_source" 22) rfl
  exact ⟨_, _, _, _, _, _, fd, He.glo_ok X G (c.fact 18 (f := .glo "_law_source") rfl), F, F.bindsN (fun _ _ _ _ _ _ us hl => match us, hl with | [_], _ => rfl), sc__law_source, ck__law_source⟩
theorem sc__law_pick : FnScope d__law_pick.N d__law_pick.ps (defScope (top 23)) := ⟨rfl, rfl, rfl, by decide +kernel, rfl, by decide +kernel, by decide +kernel⟩
theorem ck__law_pick : chkSs d__law_pick.N (defScope (top 23)) d__law_pick.body (defBody (top 23)) = true := by decide +kernel
theorem ok__law_pick (X : K.In h) (G : h.Ns mainGlobals mg) (c : He.SaysD fa fn K) : DefOk K mg "_law_pick" d__law_pick := by
  obtain ⟨fd, F⟩ := c.def_ 19 (d := dd "_law_pick" 23) rfl
  exact ⟨_, _, _, _, _, _, fd, He.glo_ok X G (c.fact 19 (f := .glo "_law_pick") rfl), F, F.bindsN (fun _ _ _ _ _ _ us hl => match us, hl with | [_, _], _ => rfl), sc__law_pick, ck__law_pick⟩
theorem sc__law_quadruples : FnScope d__law_quadruples.N d__law_quadruples.ps (defScope (top 24)) := ⟨rfl, rfl, rfl, by decide +kernel, rfl, by decide +kernel, by decide +kernel⟩
theorem ck__law_quadruples : chkSs d__law_quadruples.N (defScope (top 24)) d__law_quadruples.body (defBody (top 24)) = true := by decide +kernel
theorem ok__law_quadruples (X : K.In h) (G : h.Ns mainGlobals mg) (c : He.SaysD fa fn K) : DefOk K mg "_law_quadruples" d__law_quadruples := by
  obtain ⟨fd, F⟩ := c.def_ 20 (d := dd "_law_quadruples" 24) rfl
  exact ⟨_, _, _, _, _, _, fd, He.glo_ok X G (c.fact 20 (f := .glo "_law_quadruples") rfl), F, F.bindsN (fun _ _ _ _ _ _ us hl => match us, hl with | [_], _ => rfl), sc__law_quadruples, ck__law_quadruples⟩
theorem sc__law_sign : FnScope d__law_sign.N d__law_sign.ps (defScope (top 25)) := ⟨rfl, rfl, rfl, by decide +kernel, rfl, by decide +kernel, by decide +kernel⟩
theorem ck__law_sign : chkSs d__law_sign.N (defScope (top 25)) d__law_sign.body (defBody (top 25)) = true := by decide +kernel
theorem ok__law_sign (X : K.In h) (G : h.Ns mainGlobals mg) (c : He.SaysD fa fn K) : DefOk K mg "_law_sign" d__law_sign := by
  obtain ⟨fd, F⟩ := c.def_ 21 (d := dd "_law_sign" 25) rfl
  exact ⟨_, _, _, _, _, _, fd, He.glo_ok X G (c.fact 21 (f := .glo "_law_sign") rfl), F, F.bindsN (fun _ _ _ _ _ _ us hl => match us, hl with | [_], _ => rfl), sc__law_sign, ck__law_sign⟩
theorem sc__law_pairs : FnScope d__law_pairs.N d__law_pairs.ps (defScope (top 26)) := ⟨rfl, rfl, rfl, by decide +kernel, rfl, by decide +kernel, by decide +kernel⟩
theorem ck__law_pairs : chkSs d__law_pairs.N (defScope (top 26)) d__law_pairs.body (defBody (top 26)) = true := by decide +kernel
theorem ok__law_pairs (X : K.In h) (G : h.Ns mainGlobals mg) (c : He.SaysD fa fn K) : DefOk K mg "_law_pairs" d__law_pairs := by
  obtain ⟨fd, F⟩ := c.def_ 22 (d := dd "_law_pairs" 26) rfl
  exact ⟨_, _, _, _, _, _, fd, He.glo_ok X G (c.fact 22 (f := .glo "_law_pairs") rfl), F, F.bindsN (fun _ _ _ _ _ _ us hl => match us, hl with | [_, _], _ => rfl), sc__law_pairs, ck__law_pairs⟩
theorem sc_law : FnScope d_law.N d_law.ps (defScope (top 27)) := ⟨rfl, rfl, rfl, by decide +kernel, rfl, by decide +kernel, by decide +kernel⟩
theorem ck_law : chkSs d_law.N (defScope (top 27)) d_law.body (defBody (top 27)) = true := by decide +kernel
theorem ok_law (X : K.In h) (G : h.Ns mainGlobals mg) (c : He.SaysD fa fn K) : DefOk K mg "law" d_law := by
  obtain ⟨fd, F⟩ := c.def_ 23 (d := dd "law" 27) rfl
  exact ⟨_, _, _, _, _, _, fd, He.glo_ok X G (c.fact 23 (f := .glo "law") rfl), F, F.bindsN (fun _ _ _ _ _ _ us hl => match us, hl with | [_], _ => rfl), sc_law, ck_law⟩
theorem ok_rows (X : K.In h) (G : h.Ns mainGlobals mg) (c : He.SaysD fa fn K) : ∀ f d, tbl f = some d → DefOk K mg f d := by
  intro f d e
  have m : (f, d) ∈ rows := PySem.mem_of_lookup e
  have all : ∀ p ∈ rows, DefOk K mg p.1 p.2 := by
    unfold rows
    refine List.forall_mem_cons.mpr ⟨ok_whole_root X G c, ?_⟩
    refine List.forall_mem_cons.mpr ⟨ok_divisors_of X G c, ?_⟩
    refine List.forall_mem_cons.mpr ⟨ok_sign_by_four X G c, ?_⟩
    refine List.forall_mem_cons.mpr ⟨ok_signs_by_four X G c, ?_⟩
    refine List.forall_mem_cons.mpr ⟨ok_count_two_squares X G c, ?_⟩
    refine List.forall_mem_cons.mpr ⟨ok_has_two_squares X G c, ?_⟩
    refine List.forall_mem_cons.mpr ⟨ok_odd_part X G c, ?_⟩
    refine List.forall_mem_cons.mpr ⟨ok_count_four_squares X G c, ?_⟩
    refine List.forall_mem_cons.mpr ⟨ok_odd_divisors X G c, ?_⟩
    refine List.forall_mem_cons.mpr ⟨ok_odd_quadruples X G c, ?_⟩
    refine List.forall_mem_cons.mpr ⟨ok_quadruple_sign X G c, ?_⟩
    refine List.forall_mem_cons.mpr ⟨ok_pairs_exchanged X G c, ?_⟩
    refine List.forall_mem_cons.mpr ⟨ok_turned_quadruple X G c, ?_⟩
    refine List.forall_mem_cons.mpr ⟨ok_turned_down X G c, ?_⟩
    refine List.forall_mem_cons.mpr ⟨ok_signs_added X G c, ?_⟩
    refine List.forall_mem_cons.mpr ⟨ok_odd_tuples X G c, ?_⟩
    refine List.forall_mem_cons.mpr ⟨ok_doubled X G c, ?_⟩
    refine List.forall_mem_cons.mpr ⟨ok_halved X G c, ?_⟩
    refine List.forall_mem_cons.mpr ⟨ok__law_source X G c, ?_⟩
    refine List.forall_mem_cons.mpr ⟨ok__law_pick X G c, ?_⟩
    refine List.forall_mem_cons.mpr ⟨ok__law_quadruples X G c, ?_⟩
    refine List.forall_mem_cons.mpr ⟨ok__law_sign X G c, ?_⟩
    refine List.forall_mem_cons.mpr ⟨ok__law_pairs X G c, ?_⟩
    refine List.forall_mem_cons.mpr ⟨ok_law X G c, ?_⟩
    exact fun p hp => by cases hp
  exact all (f, d) m
theorem ok_free (X : K.In h) (G : h.Ns mainGlobals mg) (c : He.SaysD fa fn K) : ∀ x ∈ freeN, mg x = none := by
  unfold freeN
  refine List.forall_mem_cons.mpr ⟨He.free_ok X G (c.fact 24 (f := .free "len") rfl), ?_⟩
  refine List.forall_mem_cons.mpr ⟨He.free_ok X G (c.fact 25 (f := .free "abs") rfl), ?_⟩
  refine List.forall_mem_cons.mpr ⟨He.free_ok X G (c.fact 26 (f := .free "tuple") rfl), ?_⟩
  refine List.forall_mem_cons.mpr ⟨He.free_ok X G (c.fact 27 (f := .free "list") rfl), ?_⟩
  refine List.forall_mem_cons.mpr ⟨He.free_ok X G (c.fact 28 (f := .free "sum") rfl), ?_⟩
  refine List.forall_mem_cons.mpr ⟨He.free_ok X G (c.fact 29 (f := .free "sorted") rfl), ?_⟩
  refine List.forall_mem_cons.mpr ⟨He.free_ok X G (c.fact 30 (f := .free "int") rfl), ?_⟩
  refine List.forall_mem_cons.mpr ⟨He.free_ok X G (c.fact 31 (f := .free "str") rfl), ?_⟩
  refine List.forall_mem_cons.mpr ⟨He.free_ok X G (c.fact 32 (f := .free "repr") rfl), ?_⟩
  refine List.forall_mem_cons.mpr ⟨He.free_ok X G (c.fact 33 (f := .free "all") rfl), ?_⟩
  refine List.forall_mem_cons.mpr ⟨He.free_ok X G (c.fact 34 (f := .free "any") rfl), ?_⟩
  refine List.forall_mem_cons.mpr ⟨He.free_ok X G (c.fact 35 (f := .free "max") rfl), ?_⟩
  refine List.forall_mem_cons.mpr ⟨He.free_ok X G (c.fact 36 (f := .free "min") rfl), ?_⟩
  refine List.forall_mem_cons.mpr ⟨He.free_ok X G (c.fact 37 (f := .free "dict") rfl), ?_⟩
  refine List.forall_mem_cons.mpr ⟨He.free_ok X G (c.fact 38 (f := .free "range") rfl), ?_⟩
  refine List.forall_mem_cons.mpr ⟨He.free_ok X G (c.fact 39 (f := .free "enumerate") rfl), ?_⟩
  refine List.forall_mem_cons.mpr ⟨He.free_ok X G (c.fact 40 (f := .free "zip") rfl), ?_⟩
  exact fun p hp => by cases hp
theorem facts {w : World} {f : Addr} (X : K.In h) (G : h.Ns mainGlobals mg) (hmg : mg ("law" : Str) = some (.ref f)) (c : He.SaysD fa fn K) :
    ∃ fd : FuncData, (∀ (s : Shared) (v : Value), BindsTo s fd ⟨[v], []⟩ [("script", v)]) ∧ ∀ base : Heap, K.In base → base.Ns mainGlobals mg → FnG (PySem.Challenge.rw_leastwholes_k71_whole_squares_and_quadru).prog w K mg base 12 f fd ["script"] (spD K (cl 12 "law")) := by
  obtain ⟨fd, F⟩ := c.def_ 23 (d := dd "law" 27) rfl
  have e := hmg.symm.trans (He.glo_ok X G (c.fact 23 (f := .glo "law") rfl))
  cases e
  have b := FunD.bindsA (ps := ["script"]) F fun _ _ _ _ _ _ us hl => match us, hl with | [_], _ => rfl
  refine ⟨fd, fun s v => b s [v] rfl, fun base _ _ => ?_⟩
  have t := tbl_ok (P := (PySem.Challenge.rw_leastwholes_k71_whole_squares_and_quadru).prog) (w := w) (K := K) (mg := mg) (base := base) (tbl := tbl) (ext := fun _ _ => none) (fuel := 100000) (k0 := 0) (fun f as r h => by cases h) (ok_free X G c) (ok_rows X G c) 11
  rw [Nat.zero_add] at t
  exact FnG.mini (d := d_law) t (ok_free X G c) F sc_law ck_law
end
end K71
section
open PySem PySem.W PySem.Calls PyProof.Rows
theorem K71.law_of (key : ∀ ns : List Int, ns.length ≤ 63 → ∃ os, K71.cl 12 "law" [(.src, .list (ns.map .int))] = some ((.sh, .bool true), os)) : PySem.Challenge.rw_leastwholes_k71_whole_squares_and_quadru.Holds := by
  w_on; o_law
  refine HandSHeadRun.head_any (r := OpenLaw.row PySem.Challenge.rw_leastwholes_k71_whole_squares_and_quadru) (q := view (OpenLaw.row PySem.Challenge.rw_leastwholes_k71_whole_squares_and_quadru).prog [27]) (H := K71.hk) (ob := Mini.obX K71.fa K71.fn) (M := 20000) (loose := K71.names) (d := HandSHeadRun.topDef (OpenLaw.row PySem.Challenge.rw_leastwholes_k71_whole_squares_and_quadru).prog 27) (kwd := []) (Mini.obX_eq K71.fa K71.fn)
    (by kernel_rfl) (fun s => by kernel_rfl) K71.run (by kernel_rfl) (by kernel_rfl) (by kernel_rfl) (by rfl) (by first | assumption | decide +kernel) (by decide +kernel) ⟨rfl, rfl, rfl, rfl, rfl, by decide +kernel⟩ ?hw ?hc
  case hw => w_witness2
  case hc =>
    refine Mini.walk_G (l := PySem.Challenge.rw_leastwholes_k71_whole_squares_and_quadru) (n := 63) (k := 12) (x := "script") rfl (by decide) (by kernel_rfl) ⟨rfl, by decide, by decide⟩ ?F
    intro w mg fa h Y G hmg0
    obtain ⟨K, KX, c⟩ := Y
    have hmg : mg ("law" : PySem.Str) = some (.ref fa) := by
      have e : (HandSHeadRun.topDef (OpenLaw.row PySem.Challenge.rw_leastwholes_k71_whole_squares_and_quadru).prog 27).name = ("law" : PySem.Str) := by kernel_rfl
      rw [← e]
      exact hmg0
    obtain ⟨fd, hb, hF⟩ := K71.facts (w := w) KX G hmg c
    exact ⟨K, fd, Mini.spD K (K71.cl 12 "law"), KX, hb, fun H a ns hl hO hS => Mini.law_sp hO hS (key ns hl), hF⟩
end

end
section
set_option Elab.async false
set_option linter.all false
set_option maxRecDepth 100000
set_option maxHeartbeats 4000000
set_option pp.maxSteps 120
set_option pp.deepTerms false
set_option pp.deepTerms.threshold 2
namespace Lw
open PySem Mini Mir
def c_whole_root_0 (a_number : Int) (st0 : Int) : Option Bool :=
  Option.bind (mulI st0 st0) fun v_1 => some (decide (v_1 ≤ a_number))
def m_whole_root_0 (a_number : Int) (st0 : Int) : Option Int :=
  Option.bind (some ((2 : Int) * st0)) fun high_1 => some high_1
def c_whole_root_1 (a_number : Int) (st1 : Int × Int) : Option Bool :=
  some (decide ((1 : Int) < (st1.2 - st1.1)))
def m_whole_root_1 (a_number : Int) (st1 : Int × Int) : Option (Int × Int) :=
  Option.bind (some (Int.fdiv (st1.1 + st1.2) (2 : Int))) fun middle_1 => Option.bind (mulI middle_1 middle_1) fun v_2 => Option.bind ((if (decide (v_2 ≤ a_number)) = true then some (middle_1, st1.2) else some (st1.1, middle_1))) fun j_1 => some (j_1.1, j_1.2)
def m_whole_root (a_number : Int) : Option Int :=
  Option.bind (whileT (c_whole_root_0 a_number) (m_whole_root_0 a_number) 100000 (1 : Int)) fun s_1 => Option.bind (whileT (c_whole_root_1 a_number) (m_whole_root_1 a_number) 100000 ((0 : Int), s_1)) fun s_2 => some s_2.1
def m_divisors_of (a_m : Int) : Option (List Int) :=
  Option.bind (m_whole_root a_m) fun v_1 => Option.bind (rngI (1 : Int) (v_1 + (1 : Int))) fun v_2 => Option.bind (filC v_2 (fun x_1 => Option.bind (modI a_m x_1) fun v_3 => some (decide (v_3 = (0 : Int)))) (fun x_1 => some x_1)) fun v_4 => Option.bind (filC v_4.reverse (fun x_2 => Option.bind (mulI x_2 x_2) fun v_5 => some (!decide (v_5 = a_m))) (fun x_2 => Option.bind (fdivI a_m x_2) fun v_6 => some v_6)) fun v_7 => Option.bind (catL v_4 v_7) fun v_8 => some v_8
def m_sign_by_four (a_d : Int) : Option Int :=
  Option.bind (atL [(0 : Int), (1 : Int), (0 : Int), (-1 : Int)] (Int.fmod a_d (4 : Int))) fun v_1 => some v_1
def m_signs_by_four (a_m : Int) : Option Int :=
  Option.bind (m_divisors_of a_m) fun v_1 => Option.bind (mapC v_1 (fun x_1 => Option.bind (m_sign_by_four x_1) fun v_2 => some v_2)) fun v_3 => some v_3.sum
def m_count_two_squares (a_m : Int) : Option Int :=
  (if (decide (a_m = (0 : Int))) = true then some (1 : Int) else Option.bind (m_signs_by_four a_m) fun v_1 => some ((4 : Int) * v_1))
def m_has_two_squares (a_m : Int) : Option Bool :=
  Option.bind (m_signs_by_four a_m) fun v_1 => some (decide ((0 : Int) < v_1))
def c_odd_part_0  (st0 : Int) : Option Bool :=
  some (decide ((Int.fmod st0 (2 : Int)) = (0 : Int)))
def m_odd_part_0  (st0 : Int) : Option Int :=
  Option.bind (some (Int.fdiv st0 (2 : Int))) fun m_1 => some m_1
def m_odd_part (a_m : Int) : Option Int :=
  Option.bind (whileT c_odd_part_0 m_odd_part_0 100000 a_m) fun s_1 => some s_1
def m_count_four_squares (a_m : Int) : Option Int :=
  (if (decide (a_m = (0 : Int))) = true then some (1 : Int) else Option.bind (m_odd_part a_m) fun v_1 => Option.bind (m_divisors_of v_1) fun v_2 => (if (decide ((Int.fmod a_m (2 : Int)) = (1 : Int))) = true then some ((8 : Int) * v_2.sum) else some ((24 : Int) * v_2.sum)))
def m_odd_divisors (a_number : Int) : Option (List Int) :=
  Option.bind (m_divisors_of a_number) fun v_1 => Option.bind (filC v_1 (fun x_1 => some (decide ((Int.fmod x_1 (2 : Int)) = (1 : Int)))) (fun x_1 => some x_1)) fun v_2 => some v_2
def m_odd_quadruples_1 (a_m : Int) (e0 : Int) (late_1 : Int) (st1 : (List (Int × Int × Int × Int))) (e1 : Int) : Option (((List (Int × Int × Int × Int)))) :=
  Option.bind (m_odd_divisors late_1) fun v_3 => Option.bind (mapC v_3 (fun x_1 => Option.bind (fdivI e0 e1) fun v_4 => Option.bind (fdivI late_1 x_1) fun v_5 => some (e1, v_4, x_1, v_5))) fun v_6 => Option.bind (catL st1 v_6) fun v_7 => some v_7
def m_odd_quadruples_0 (a_m : Int) (st0 : (List (Int × Int × Int × Int))) (e0 : Int) : Option (((List (Int × Int × Int × Int)))) :=
  Option.bind (some (((2 : Int) * a_m) - e0)) fun late_1 => Option.bind (m_odd_divisors e0) fun v_2 => Option.bind (List.foldlM (m_odd_quadruples_1 a_m e0 late_1) st0 v_2) fun s_1 => some s_1
def m_odd_quadruples (a_m : Int) : Option (List (Int × Int × Int × Int)) :=
  Option.bind (rng3I (1 : Int) ((2 : Int) * a_m) (2 : Int)) fun v_1 => Option.bind (List.foldlM (m_odd_quadruples_0 a_m) [] v_1) fun s_2 => Option.bind (sortC (eP4 PyData.int PyData.int PyData.int PyData.int) s_2) fun v_8 => some v_8
def m_quadruple_sign (a_one : Int × Int × Int × Int) : Option Int :=
  Option.bind (some (Int.fdiv (a_one.1 - a_one.2.2.1) (2 : Int))) fun half_1 => (if (decide ((Int.fmod half_1 (2 : Int)) = (0 : Int))) = true then some (1 : Int) else some (-1 : Int))
def m_pairs_exchanged (a_one : Int × Int × Int × Int) : Option (Int × Int × Int × Int) :=
  some (a_one.2.2.1, a_one.2.2.2, a_one.1, a_one.2.1)
def m_turned_down (a_one : Int × Int × Int × Int) : Option (Int × Int × Int × Int) :=
  Option.bind (some (a_one.1 - a_one.2.2.1)) fun apart_1 => Option.bind (some (a_one.2.1 + a_one.2.2.2)) fun both_1 => Option.bind (fdivI a_one.2.2.1 apart_1) fun v_1 => Option.bind (mulI (v_1 + (1 : Int)) both_1) fun v_2 => Option.bind (mulI v_1 apart_1) fun v_3 => Option.bind (mulI v_1 both_1) fun v_4 => Option.bind (mulI (v_1 + (1 : Int)) apart_1) fun v_5 => some ((a_one.2.1 + v_2), (a_one.2.2.1 - v_3), (a_one.2.1 + v_4), (v_5 - a_one.2.2.1))
def m_turned_quadruple (a_one : Int × Int × Int × Int) : Option (Int × Int × Int × Int) :=
  (if (decide (a_one.1 < a_one.2.2.1)) = true then Option.bind (m_pairs_exchanged a_one) fun v_1 => Option.bind (m_turned_down v_1) fun v_2 => Option.bind (m_pairs_exchanged v_2) fun v_3 => some v_3 else Option.bind (m_turned_down a_one) fun v_4 => some v_4)
def m_signs_added (a_m : Int) : Option Int :=
  Option.bind (m_odd_quadruples a_m) fun v_1 => Option.bind (mapC v_1 (fun x_1 => Option.bind (m_quadruple_sign x_1) fun v_2 => some v_2)) fun v_3 => some v_3.sum
def m_odd_tuples (a_m : Int) : Option Int :=
  Option.bind (m_divisors_of a_m) fun v_1 => some v_1.sum
def m_doubled (a_one : Int × Int × Int × Int) : Option (Int × Int × Int × Int) :=
  some ((a_one.1 + a_one.2.1), (a_one.1 - a_one.2.1), (a_one.2.2.1 + a_one.2.2.2), (a_one.2.2.1 - a_one.2.2.2))
def m_halved (a_one : Int × Int × Int × Int) : Option (Option (Int × Int × Int × Int)) :=
  (if (decide ((Int.fmod (a_one.1 + a_one.2.1) (2 : Int)) = (1 : Int))) = true then some none else (if (decide ((Int.fmod (a_one.2.2.1 + a_one.2.2.2) (2 : Int)) = (1 : Int))) = true then some none else some (some ((Int.fdiv (a_one.1 + a_one.2.1) (2 : Int)), (Int.fdiv (a_one.1 - a_one.2.1) (2 : Int)), (Int.fdiv (a_one.2.2.1 + a_one.2.2.2) (2 : Int)), (Int.fdiv (a_one.2.2.1 - a_one.2.2.2) (2 : Int))))))
def m__law_source_0 (a_script : List Int) (st0 : Int) (e0 : Int) : Option Int :=
  Option.bind (some (Int.fmod (((st0 * (69069 : Int)) + (e0 * (31 : Int))) + (5 : Int)) (2147483629 : Int))) fun stirred_1 => some stirred_1
def m__law_source (a_script : List Int) : Option Src :=
  Option.bind (List.foldlM (m__law_source_0 a_script) (11 : Int) a_script) fun s_1 => Option.bind (mapC a_script (fun x_1 => some (absI x_1))) fun v_1 => some (v_1.reverse, 1, s_1, 0)
def m__law_pick (a_source : Src) (a_most : Int) : Option (Int × Src) :=
  (if (decide (a_most < (2 : Int))) = true then some ((0 : Int), a_source) else Option.bind (some (pullS a_source)) fun z_1 => (if (decide ((1 : Int) < z_1.2.1)) = true then Option.bind (fdivI z_1.2.1 a_most) fun v_1 => Option.bind (some (z_1.1, v_1, z_1.2.2)) fun z_2 => Option.bind (modI z_1.2.1 a_most) fun v_2 => some (v_2, z_2) else Option.bind (some (z_1.1, z_1.2.1, z_1.2.2.1, (z_1.2.2.2 + (1 : Int)))) fun z_3 => Option.bind (some (Int.fmod (z_3.2.2.1 + (z_3.2.2.2 * (104729 : Int))) (998244353 : Int))) fun stirred_1 => Option.bind (mulI stirred_1 stirred_1) fun v_3 => Option.bind (some (Int.fmod (v_3 + (z_3.2.2.2 * (17 : Int))) (2147483647 : Int))) fun stirred_2 => Option.bind (modI (Int.fdiv stirred_2 (16 : Int)) a_most) fun v_4 => some (v_4, z_3)))
def m__law_quadruples_1 (a_m : Int) (e0 : Int) (st1 : (List (Int × Int × Int × Int))) (e1 : Int) : Option (((List (Int × Int × Int × Int)))) :=
  Option.bind (mulI e0 e1) fun v_5 => Option.bind (some (((2 : Int) * a_m) - v_5)) fun late_1 => Option.bind (rng3I (1 : Int) (late_1 + (1 : Int)) (2 : Int)) fun v_6 => Option.bind (filC v_6 (fun x_2 => Option.bind (modI late_1 x_2) fun v_7 => some (decide (v_7 = (0 : Int)))) (fun x_2 => Option.bind (fdivI late_1 x_2) fun v_8 => some (e0, e1, x_2, v_8))) fun v_9 => Option.bind (catL st1 v_9) fun v_10 => some v_10
def m__law_quadruples_0 (a_m : Int) (st0 : (List (Int × Int × Int × Int))) (e0 : Int) : Option (((List (Int × Int × Int × Int)))) :=
  Option.bind (rng3I (1 : Int) ((2 : Int) * a_m) (2 : Int)) fun v_2 => Option.bind (filC v_2 (fun x_1 => Option.bind (mulI e0 x_1) fun v_3 => some (decide (v_3 < ((2 : Int) * a_m)))) (fun x_1 => some x_1)) fun v_4 => Option.bind (List.foldlM (m__law_quadruples_1 a_m e0) st0 v_4) fun s_1 => some s_1
def m__law_quadruples (a_m : Int) : Option (List (Int × Int × Int × Int)) :=
  Option.bind (rng3I (1 : Int) ((2 : Int) * a_m) (2 : Int)) fun v_1 => Option.bind (List.foldlM (m__law_quadruples_0 a_m) [] v_1) fun s_2 => Option.bind (sortC (eP4 PyData.int PyData.int PyData.int PyData.int) s_2) fun v_11 => Option.bind (filC v_11 (fun x_3 => some (decide ((Int.fmod x_3.2.2.2 (2 : Int)) = (1 : Int)))) (fun x_3 => some x_3)) fun v_12 => some v_12
def m__law_sign (a_one : Int × Int × Int × Int) : Option Int :=
  some ((1 : Int) - ((2 : Int) * (Int.fmod (Int.fdiv (a_one.1 - a_one.2.2.1) (2 : Int)) (2 : Int))))
def m__law_pairs (a_m : Int) (a_some : List (Int × Int)) : Option Int :=
  Option.bind (mapC a_some (fun x_1 => Option.bind (mulI x_1.2 ((dGet a_some (a_m - x_1.1)).getD (0 : Int))) fun v_1 => some v_1)) fun v_2 => some v_2.sum
def m_law_0 (a_script : List Int) (v_2 : Int × Src) (m_1 : Int) (v_3 : List (Int × Int × Int × Int)) (v_6 : List Int) (st0 : Unit) (e0 : Int × Int × Int × Int) : Option (Unit ⊕ Bool) :=
  Option.bind (m_quadruple_sign e0) fun v_14 => Option.bind (reprC (PyData.int v_14)) fun v_15 => Option.bind (m__law_sign e0) fun v_16 => Option.bind (reprC (PyData.int v_16)) fun v_17 => (if (!decide (v_15 = v_17)) = true then some (.inr false) else (if (!decide (e0.1 = e0.2.2.1)) = true then Option.bind (m_turned_quadruple e0) fun v_18 => Option.bind ((if (!memB v_18 v_3) = true then some true else Option.bind (m__law_sign v_18) fun v_19 => Option.bind (m__law_sign e0) fun v_20 => Option.bind ((if (decide (v_19 = v_20)) = true then some true else Option.bind (m_turned_quadruple v_18) fun v_21 => some (!decide (v_21 = e0)))) fun v_22 => some v_22)) fun v_23 => (if v_23 = true then some (.inr false) else (if ((!decide ((decide (v_18.2.2.1 < v_18.1)) = (decide (e0.2.2.1 < e0.1)))) || (!decide ((absI (v_18.1 - v_18.2.2.1)) = (e0.2.1 + e0.2.2.2)))) = true then some (.inr false) else some (.inl ()))) else some (.inl ())))
def m_law_2 (a_script : List Int) (v_2 : Int × Src) (m_1 : Int) (v_3 : List (Int × Int × Int × Int)) (v_6 : List Int) (v_31 : List Int) (e1 : Int) (st2 : (List (Int × Int))) (e2 : Int) : Option (((List (Int × Int)))) :=
  Option.bind (dPutI st2 (e1 + e2) (((dGet st2 (e1 + e2)).getD (0 : Int)) + (1 : Int))) fun v_32 => some v_32
def m_law_1 (a_script : List Int) (v_2 : Int × Src) (m_1 : Int) (v_3 : List (Int × Int × Int × Int)) (v_6 : List Int) (v_31 : List Int) (st1 : (List (Int × Int))) (e1 : Int) : Option (((List (Int × Int)))) :=
  Option.bind (List.foldlM (m_law_2 a_script v_2 m_1 v_3 v_6 v_31 e1) st1 v_31) fun s_2 => some s_2
def m_law_3 (a_script : List Int) (v_37 : Int × Src) (m_1 : Int) (v_3 : List (Int × Int × Int × Int)) (v_6 : List Int) (v_31 : List Int) (s_3 : (List (Int × Int))) (st3 : (List (Int × Int))) (e3 : Int) : Option (((List (Int × Int)))) :=
  Option.bind (mulI e3 e3) fun v_39 => Option.bind (dPutI st3 v_39 (2 : Int)) fun v_40 => some v_40
def m_law_4 (a_script : List Int) (v_37 : Int × Src) (m_1 : Int) (v_3 : List (Int × Int × Int × Int)) (v_6 : List Int) (v_31 : List Int) (s_3 : (List (Int × Int))) (s_4 : (List (Int × Int))) (st4 : (List (Int × Int))) (e4 : Int) : Option (((List (Int × Int)))) :=
  Option.bind (m__law_pairs e4 s_4) fun v_42 => Option.bind (dPutI st4 e4 v_42) fun v_43 => some v_43
def m_law (a_script : List Int) : Option Bool :=
  Option.bind (m__law_source a_script) fun v_1 => Option.bind (m__law_pick v_1 (14 : Int)) fun v_2 => Option.bind (some ((1 : Int) + ((2 : Int) * v_2.1))) fun m_1 => Option.bind (m__law_quadruples m_1) fun v_3 => Option.bind (rngI (1 : Int) (m_1 + (1 : Int))) fun v_4 => Option.bind (filC v_4 (fun x_1 => Option.bind (modI m_1 x_1) fun v_5 => some (decide (v_5 = (0 : Int)))) (fun x_1 => some x_1)) fun v_6 => Option.bind (m_odd_quadruples m_1) fun v_7 => Option.bind (reprC ((eT (eP4 PyData.int PyData.int PyData.int PyData.int)) v_7)) fun v_8 => Option.bind (reprC ((eT (eP4 PyData.int PyData.int PyData.int PyData.int)) v_3)) fun v_9 => Option.bind ((if (!decide (v_8 = v_9)) = true then some true else Option.bind (m_divisors_of m_1) fun v_10 => Option.bind (reprC ((eT PyData.int) v_10)) fun v_11 => Option.bind (reprC ((eT PyData.int) v_6)) fun v_12 => some (!decide (v_11 = v_12)))) fun v_13 => (if v_13 = true then some false else Option.bind (forR (m_law_0 a_script v_2 m_1 v_3 v_6) v_3 ()) fun o_1 => (match o_1 with | .inl s_1 => Option.bind (m_signs_added m_1) fun v_24 => Option.bind (reprC (PyData.int v_24)) fun v_25 => Option.bind (mapC v_3 (fun x_2 => Option.bind (m__law_sign x_2) fun v_26 => some v_26)) fun v_27 => Option.bind (reprC (PyData.int v_27.sum)) fun v_28 => (if (!decide (v_25 = v_28)) = true then some false else Option.bind (rng3I (1 : Int) (((2 : Int) * m_1) + (2 : Int)) (2 : Int)) fun v_29 => Option.bind (mapC v_29 (fun x_3 => Option.bind (mulI x_3 x_3) fun v_30 => some v_30)) fun v_31 => Option.bind (List.foldlM (m_law_1 a_script v_2 m_1 v_3 v_6 v_31) [] v_31) fun s_3 => Option.bind (m_odd_tuples m_1) fun v_33 => Option.bind (reprC (PyData.int v_33)) fun v_34 => Option.bind (m__law_pairs ((4 : Int) * m_1) s_3) fun v_35 => Option.bind (reprC (PyData.int v_35)) fun v_36 => (if (!decide (v_34 = v_36)) = true then some false else Option.bind (m__law_pick v_2.2 (200 : Int)) fun v_37 => Option.bind (some [((0 : Int), (1 : Int))]) fun squares_1 => Option.bind (rngI (1 : Int) (15 : Int)) fun v_38 => Option.bind (List.foldlM (m_law_3 a_script v_37 m_1 v_3 v_6 v_31 s_3) squares_1 v_38) fun s_4 => Option.bind (rng1I (v_37.1 + (1 : Int))) fun v_41 => Option.bind (List.foldlM (m_law_4 a_script v_37 m_1 v_3 v_6 v_31 s_3 s_4) [] v_41) fun s_5 => Option.bind (m_count_two_squares v_37.1) fun v_44 => Option.bind (m_count_four_squares v_37.1) fun v_45 => Option.bind (reprC ((eL PyData.int) (v_44 :: [v_45]))) fun v_46 => Option.bind (dGet s_5 v_37.1) fun v_47 => Option.bind (m__law_pairs v_37.1 s_5) fun v_48 => Option.bind (reprC ((eL PyData.int) (v_47 :: [v_48]))) fun v_49 => (if (!decide (v_46 = v_49)) = true then some false else Option.bind ((if (decide ((0 : Int) < v_37.1)) = true then Option.bind (m_has_two_squares v_37.1) fun v_50 => Option.bind (reprC (PyData.bool v_50)) fun v_51 => Option.bind (dGet s_5 v_37.1) fun v_52 => Option.bind (reprC (PyData.bool (decide ((0 : Int) < v_52)))) fun v_53 => some (!decide (v_51 = v_53)) else some false)) fun v_54 => (if v_54 = true then some false else Option.bind ((if (decide ((0 : Int) < v_37.1)) = true then Option.bind (m_divisors_of v_37.1) fun v_55 => Option.bind (reprC ((eT PyData.int) v_55)) fun v_56 => Option.bind (rngI (1 : Int) (v_37.1 + (1 : Int))) fun v_57 => Option.bind (filC v_57 (fun x_4 => Option.bind (modI v_37.1 x_4) fun v_58 => some (decide (v_58 = (0 : Int)))) (fun x_4 => some x_4)) fun v_59 => Option.bind (reprC ((eT PyData.int) v_59)) fun v_60 => some (!decide (v_56 = v_60)) else some false)) fun v_61 => (if v_61 = true then some false else Option.bind (rng1I (4 : Int)) fun v_62 => Option.bind (mapS v_62 (fun z_1 x_6 => Option.bind (m__law_pick z_1 (200 : Int)) fun v_63 => some ((v_63.1 - (100 : Int)), v_63.2)) v_37.2) fun v_64 => Option.bind (toP4 v_64.1) fun v_65 => Option.bind (m_doubled v_65) fun v_66 => Option.bind (reprC ((eP4 PyData.int PyData.int PyData.int PyData.int) v_66)) fun v_67 => Option.bind (reprC ((eP4 PyData.int PyData.int PyData.int PyData.int) ((v_65.1 + v_65.2.1), (v_65.1 - v_65.2.1), (v_65.2.2.1 + v_65.2.2.2), (v_65.2.2.1 - v_65.2.2.2)))) fun v_68 => Option.bind ((if (!decide (v_67 = v_68)) = true then some true else Option.bind (m_doubled v_65) fun v_69 => Option.bind (m_halved v_69) fun v_70 => some (!decide (v_70 = (some v_65))))) fun v_71 => (if v_71 = true then some false else Option.bind (m_doubled v_65) fun v_72 => Option.bind (mapC [v_72.1, v_72.2.1, v_72.2.2.1, v_72.2.2.2] (fun x_7 => Option.bind (mulI x_7 x_7) fun v_73 => some v_73)) fun v_74 => Option.bind (mapC [v_65.1, v_65.2.1, v_65.2.2.1, v_65.2.2.2] (fun x_8 => Option.bind (mulI x_8 x_8) fun v_75 => some v_75)) fun v_76 => (if (!decide (v_74.sum = ((2 : Int) * v_76.sum))) = true then some false else Option.bind (m_halved v_65) fun v_77 => Option.bind (some ((decide ((Int.fmod (v_65.1 - v_65.2.1) (2 : Int)) = (0 : Int))) && (decide ((Int.fmod (v_65.2.2.1 - v_65.2.2.2) (2 : Int)) = (0 : Int))))) fun fits_1 => Option.bind ((if (decide (v_77.isSome = fits_1)) = true then Option.bind ((if v_77.isNone = true then some true else Option.bind (v_77) fun v_78 => Option.bind (m_doubled v_78) fun v_79 => some (decide (v_79 = v_65)))) fun v_80 => some v_80 else some false)) fun v_81 => some v_81))))))) | .inr t => some t))
end Lw

end
section
set_option Elab.async false
set_option linter.all false
set_option maxRecDepth 100000
set_option maxHeartbeats 4000000
set_option pp.maxSteps 120
set_option pp.deepTerms false
set_option pp.deepTerms.threshold 2
namespace K71
open PySem Mini Mir Lw
abbrev R_whole_root_0 (a_number : Int) (st0 : Int) (ρ : En) : Prop := ρ = [some (sS (PyData.int a_number)), some (sS (PyData.int (0 : Int))), some (sS (PyData.int st0)), none]
theorem t_whole_root_0 (k : Nat) (a_number : Int) (st0 : Int) (b : Bool) (ρ : En) (hR : R_whole_root_0 a_number st0 ρ) (h : c_whole_root_0 a_number st0 = some b) : ∃ ρ', tv (cl (k + 0)) p_whole_root_0 ρ = some (b, ρ') ∧ R_whole_root_0 a_number st0 ρ' := by
  obtain rfl := hR
  unfold c_whole_root_0 at h
  obtain ⟨v_1, h_v_1, h⟩ := Mir.bindS h; have h := Option.some.inj h; subst h
  exact ⟨[some (sS (PyData.int a_number)), some (sS (PyData.int (0 : Int))), some (sS (PyData.int st0)), none], (by unfold p_whole_root_0; exact (tB (cLe (bMul h_v_1 (xV rfl) (xV rfl)) (xV rfl)))), rfl⟩
theorem s_whole_root_0 (k : Nat) (a_number : Int) (st0 s2 : Int) (ρ : En) (hR : R_whole_root_0 a_number st0 ρ) (hc0 : c_whole_root_0 a_number st0 = some true) (h : m_whole_root_0 a_number st0 = some s2) : ∃ ρ', exs (cl (k + 0)) 100000 p_whole_root_1 ρ = some (.nx ρ') ∧ R_whole_root_0 a_number s2 ρ' := by
  obtain rfl := hR
  refine nx_of ?_
  show Ok (cl (k + 0)) 100000 p_whole_root_1 [some (sS (PyData.int a_number)), some (sS (PyData.int (0 : Int))), some (sS (PyData.int st0)), none] (Nx (R_whole_root_0 a_number s2))
  unfold p_whole_root_1
  unfold m_whole_root_0 at h
  obtain ⟨high_1, h_high_1, h⟩ := Mir.bindS h
  have e_high_1 := Option.some.inj h_high_1
  refine Ok.asg (ρ' := [some (sS (PyData.int a_number)), some (sS (PyData.int (0 : Int))), some (sS (PyData.int high_1)), none]) (bMulK (mul_small' (by decide)) xI (xV rfl)) (by subst e_high_1; rfl) ?_
  have h := Option.some.inj h; subst h
  exact Ok.nil rfl
abbrev R_whole_root_1 (a_number : Int) (st1 : Int × Int) (ρ : En) : Prop := ∃ u_1 : Option Sl, ρ = [some (sS (PyData.int a_number)), some (sS (PyData.int st1.1)), some (sS (PyData.int st1.2)), u_1]
theorem t_whole_root_1 (k : Nat) (a_number : Int) (st1 : Int × Int) (b : Bool) (ρ : En) (hR : R_whole_root_1 a_number st1 ρ) (h : c_whole_root_1 a_number st1 = some b) : ∃ ρ', tv (cl (k + 0)) p_whole_root_2 ρ = some (b, ρ') ∧ R_whole_root_1 a_number st1 ρ' := by
  obtain ⟨u_1, rfl⟩ := hR
  unfold c_whole_root_1 at h
  have h := Option.some.inj h; subst h
  exact ⟨[some (sS (PyData.int a_number)), some (sS (PyData.int st1.1)), some (sS (PyData.int st1.2)), u_1], (by unfold p_whole_root_2; exact (tB (cGt (bSub (xV rfl) (xV rfl)) xI))), ⟨u_1, rfl⟩⟩
theorem s_whole_root_1 (k : Nat) (a_number : Int) (st1 s2 : Int × Int) (ρ : En) (hR : R_whole_root_1 a_number st1 ρ) (hc0 : c_whole_root_1 a_number st1 = some true) (h : m_whole_root_1 a_number st1 = some s2) : ∃ ρ', exs (cl (k + 0)) 100000 p_whole_root_3 ρ = some (.nx ρ') ∧ R_whole_root_1 a_number s2 ρ' := by
  obtain ⟨u_1, rfl⟩ := hR
  refine nx_of ?_
  show Ok (cl (k + 0)) 100000 p_whole_root_3 [some (sS (PyData.int a_number)), some (sS (PyData.int st1.1)), some (sS (PyData.int st1.2)), u_1] (Nx (R_whole_root_1 a_number s2))
  unfold p_whole_root_3
  unfold m_whole_root_1 at h
  obtain ⟨middle_1, h_middle_1, h⟩ := Mir.bindS h
  have e_middle_1 := Option.some.inj h_middle_1
  refine Ok.asg (ρ' := [some (sS (PyData.int a_number)), some (sS (PyData.int st1.1)), some (sS (PyData.int st1.2)), some (sS (PyData.int middle_1))]) (bDivK (by decide) (bAdd (xV rfl) (xV rfl)) xI) (by subst e_middle_1; rfl) ?_
  obtain ⟨v_2, h_v_2, h⟩ := Mir.bindS h
  obtain ⟨j_1, h_j_1, h⟩ := Mir.bindS h
  refine Ok.join (fun ρ' => ρ' = [some (sS (PyData.int a_number)), some (sS (PyData.int j_1.1)), some (sS (PyData.int j_1.2)), some (sS (PyData.int middle_1))]) ?_ ?_
  · have h := h_j_1
    by_cases hc : (decide (v_2 ≤ a_number)) = true
    · rw [if_pos hc] at h
      refine Ok.ifT (by rw [← hc]; exact (tB (cLe (bMul h_v_2 (xV rfl) (xV rfl)) (xV rfl)))) ?_
      refine Ok.asg (ρ' := [some (sS (PyData.int a_number)), some (sS (PyData.int middle_1)), some (sS (PyData.int st1.2)), some (sS (PyData.int middle_1))]) (xSh rfl) rfl ?_
      have h := Option.some.inj h; subst h
      exact Ok.nil (Ok.nil rfl)
    · rw [if_neg hc] at h
      have hc := Bool.eq_false_iff.mpr hc
      refine Ok.ifF (by rw [← hc]; exact (tB (cLe (bMul h_v_2 (xV rfl) (xV rfl)) (xV rfl)))) ?_
      refine Ok.asg (ρ' := [some (sS (PyData.int a_number)), some (sS (PyData.int st1.1)), some (sS (PyData.int middle_1)), some (sS (PyData.int middle_1))]) (xSh rfl) rfl ?_
      have h := Option.some.inj h; subst h
      exact Ok.nil (Ok.nil rfl)
  · rintro ρ' rfl
    have h := Option.some.inj h; subst h
    exact Ok.nil ⟨_, rfl⟩
theorem w_whole_root (k : Nat) (a_number : Int) (r : Int) (h : m_whole_root a_number = some r) : cl (k + 1) "whole_root" [sS (PyData.int a_number)] = some (sS (PyData.int r), [PyData.int a_number]) := by
  show runDef (cl (k + 0)) 100000 1 4 d_whole_root.body [sS (PyData.int a_number)] = _
  refine run_ok rfl rfl ?_
  show Ok (cl (k + 0)) 100000 d_whole_root.body [some (sS (PyData.int a_number)), none, none, none] _
  unfold m_whole_root at h
  unfold d_whole_root
  refine Ok.asg (ρ' := [some (sS (PyData.int a_number)), some (sS (PyData.int (0 : Int))), some (sS (PyData.int (1 : Int))), none]) (dT (lCons xI (lCons xI lNil)) (Nat.le_of_ble_eq_true rfl)) rfl ?_
  obtain ⟨s_1, h_s_1, h⟩ := Mir.bindS h
  obtain ⟨ρ_s_1, hl_s_1, rfl⟩ := while_ok (c_whole_root_0 a_number) (m_whole_root_0 a_number) (R_whole_root_0 a_number) (t_whole_root_0 k a_number) (s_whole_root_0 k a_number) 100000 _ _ _ rfl h_s_1
  refine Ok.whl hl_s_1 ?_
  show Ok _ _ _ [some (sS (PyData.int a_number)), some (sS (PyData.int (0 : Int))), some (sS (PyData.int s_1)), none] _
  obtain ⟨s_2, h_s_2, h⟩ := Mir.bindS h
  obtain ⟨ρ_s_2, hl_s_2, u_2, rfl⟩ := while_ok (c_whole_root_1 a_number) (m_whole_root_1 a_number) (R_whole_root_1 a_number) (t_whole_root_1 k a_number) (s_whole_root_1 k a_number) 100000 _ _ _ ⟨none, rfl⟩ h_s_2
  refine Ok.whl hl_s_2 ?_
  show Ok _ _ _ [some (sS (PyData.int a_number)), some (sS (PyData.int s_2.1)), some (sS (PyData.int s_2.2)), u_2] _
  have h := Option.some.inj h; subst h
  exact Ok.ret (xMv rfl) rfl (show _ ∧ _ from ⟨rfl, rfl⟩)
theorem w_divisors_of (k : Nat) (a_m : Int) (r : List Int) (h : m_divisors_of a_m = some r) : cl (k + 2) "divisors_of" [sS (PyData.int a_m)] = some (sS ((eT PyData.int) r), [PyData.int a_m]) := by
  show runDef (cl (k + 1)) 100000 1 4 d_divisors_of.body [sS (PyData.int a_m)] = _
  refine run_ok rfl rfl ?_
  show Ok (cl (k + 1)) 100000 d_divisors_of.body [some (sS (PyData.int a_m)), none, none, none] _
  unfold m_divisors_of at h
  unfold d_divisors_of
  obtain ⟨v_1, h_v_1, h⟩ := Mir.bindS h
  obtain ⟨v_2, h_v_2, h⟩ := Mir.bindS h
  obtain ⟨v_4, h_v_4, h⟩ := Mir.bindS h
  refine Ok.asg (ρ' := [some (sS (PyData.int a_m)), some (oS ((eL PyData.int) v_4)), none, none]) (compIf_ (fa := PyData.int) (fb := PyData.int) h_v_4 (iR2 h_v_2 xI (bAdd (ev_call_ (q := (sS (PyData.int v_1), [PyData.int a_m])) (D := [.inl (PyData.int a_m)]) (L := []) (aCons (fun _ h => by cases h) (xSh rfl) aNil) rfl (w_whole_root (k + 0) a_m v_1 h_v_1) rfl rfl) xI)) (ownFree1 fr_n) (fun x_1 b h => (by obtain ⟨v_3, h_v_3, h⟩ := Mir.bindS h; have h := Option.some.inj h; subst h; exact ⟨[some (sS (PyData.int a_m)), none, none, some (sS (PyData.int x_1))], rfl, (by unfold p_divisors_of_0; exact (tB (cEqI (bMod h_v_3 (xV rfl) (xV rfl)) xI))), rfl, fun _ y h => (by have h := Option.some.inj h; subst h; exact ⟨[some (sS (PyData.int a_m)), none, none, some (sS (PyData.int x_1))], .sh, (by unfold p_divisors_of_1; exact (xSh rfl)), rfl, rfl⟩)⟩)) rfl) rfl ?_
  obtain ⟨v_7, h_v_7, h⟩ := Mir.bindS h
  refine Ok.asg (ρ' := [some (sS (PyData.int a_m)), some (oS ((eL PyData.int) v_4)), some (oS ((eL PyData.int) v_7)), none]) (compIf_ (fa := PyData.int) (fb := PyData.int) h_v_7 (iE (d := (eL PyData.int) v_4.reverse) rfl (rvL (xVo rfl))) (ownFree1 fr_n) (fun x_2 b h => (by obtain ⟨v_5, h_v_5, h⟩ := Mir.bindS h; have h := Option.some.inj h; subst h; exact ⟨[some (sS (PyData.int a_m)), some (oS ((eL PyData.int) v_4)), none, some (sS (PyData.int x_2))], rfl, (by unfold p_divisors_of_2; exact (tB (cNeI (bMul h_v_5 (xV rfl) (xV rfl)) (xV rfl)))), rfl, fun _ y h => (by obtain ⟨v_6, h_v_6, h⟩ := Mir.bindS h; have h := Option.some.inj h; subst h; exact ⟨[some (sS (PyData.int a_m)), some (oS ((eL PyData.int) v_4)), none, some (sS (PyData.int x_2))], .sh, (by unfold p_divisors_of_3; exact (bDiv h_v_6 (xV rfl) (xV rfl))), rfl, rfl⟩)⟩)) rfl) rfl ?_
  obtain ⟨v_8, h_v_8, h⟩ := Mir.bindS h
  have h := Option.some.inj h; subst h
  exact Ok.ret (b1TL (catLL (fa := PyData.int) h_v_8 (xVo rfl) (xVo rfl))) rfl (show _ ∧ _ from ⟨rfl, rfl⟩)
theorem w_sign_by_four (k : Nat) (a_d : Int) (r : Int) (h : m_sign_by_four a_d = some r) : cl (k + 1) "sign_by_four" [sS (PyData.int a_d)] = some (sS (PyData.int r), [PyData.int a_d]) := by
  show runDef (cl (k + 0)) 100000 1 1 d_sign_by_four.body [sS (PyData.int a_d)] = _
  refine run_ok rfl rfl ?_
  show Ok (cl (k + 0)) 100000 d_sign_by_four.body [some (sS (PyData.int a_d))] _
  unfold m_sign_by_four at h
  unfold d_sign_by_four
  obtain ⟨v_1, h_v_1, h⟩ := Mir.bindS h
  have h := Option.some.inj h; subst h
  exact Ok.ret (ixT (fa := PyData.int) h_v_1 (dT (lCons xI (lCons xI (lCons xI (lCons (bNeg xI) lNil)))) (Nat.le_of_ble_eq_true rfl)) (bModK (by decide) (xV rfl) xI)) rfl (show _ ∧ _ from ⟨rfl, rfl⟩)
theorem w_signs_by_four (k : Nat) (a_m : Int) (r : Int) (h : m_signs_by_four a_m = some r) : cl (k + 3) "signs_by_four" [sS (PyData.int a_m)] = some (sS (PyData.int r), [PyData.int a_m]) := by
  show runDef (cl (k + 2)) 100000 1 2 d_signs_by_four.body [sS (PyData.int a_m)] = _
  refine run_ok rfl rfl ?_
  show Ok (cl (k + 2)) 100000 d_signs_by_four.body [some (sS (PyData.int a_m)), none] _
  unfold m_signs_by_four at h
  unfold d_signs_by_four
  obtain ⟨v_1, h_v_1, h⟩ := Mir.bindS h
  obtain ⟨v_3, h_v_3, h⟩ := Mir.bindS h
  have h := Option.some.inj h; subst h
  exact Ok.ret (sumL (comp_ (fa := PyData.int) (fb := PyData.int) h_v_3 (iE (d := (eT PyData.int) v_1) rfl (ev_call_ (q := (sS ((eT PyData.int) v_1), [PyData.int a_m])) (D := [.inl (PyData.int a_m)]) (L := []) (aCons (fun _ h => by cases h) (xSh rfl) aNil) rfl (w_divisors_of (k + 0) a_m v_1 h_v_1) rfl rfl)) (ownFree1 fr_n) (fun x_1 y h => (by obtain ⟨v_2, h_v_2, h⟩ := Mir.bindS h; have h := Option.some.inj h; subst h; exact ⟨[some (sS (PyData.int a_m)), some (sS (PyData.int x_1))], [some (sS (PyData.int a_m)), some (sS (PyData.int x_1))], .sh, rfl, (by unfold p_signs_by_four_0; exact (ev_call_ (q := (sS (PyData.int v_2), [PyData.int x_1])) (D := [.inl (PyData.int x_1)]) (L := []) (aCons (fun _ h => by cases h) (xSh rfl) aNil) rfl (w_sign_by_four (k + 1) x_1 v_2 h_v_2) rfl rfl)), rfl, rfl⟩)) rfl)) rfl (show _ ∧ _ from ⟨rfl, rfl⟩)
theorem w_count_two_squares (k : Nat) (a_m : Int) (r : Int) (h : m_count_two_squares a_m = some r) : cl (k + 4) "count_two_squares" [sS (PyData.int a_m)] = some (sS (PyData.int r), [PyData.int a_m]) := by
  show runDef (cl (k + 3)) 100000 1 1 d_count_two_squares.body [sS (PyData.int a_m)] = _
  refine run_ok rfl rfl ?_
  show Ok (cl (k + 3)) 100000 d_count_two_squares.body [some (sS (PyData.int a_m))] _
  unfold m_count_two_squares at h
  unfold d_count_two_squares
  by_cases hc : (decide (a_m = (0 : Int))) = true
  · rw [if_pos hc] at h
    refine Ok.ifT (by rw [← hc]; exact (tB (cEqI (xV rfl) xI))) ?_
    have h := Option.some.inj h; subst h
    exact Ok.ret xI rfl (show _ ∧ _ from ⟨rfl, rfl⟩)
  · rw [if_neg hc] at h
    have hc := Bool.eq_false_iff.mpr hc
    refine Ok.ifF (by rw [← hc]; exact (tB (cEqI (xV rfl) xI))) ?_
    refine Ok.nil ?_
    show Ok _ _ _ [some (sS (PyData.int a_m))] _
    obtain ⟨v_1, h_v_1, h⟩ := Mir.bindS h
    have h := Option.some.inj h; subst h
    exact Ok.ret (bMulK (mul_small' (by decide)) xI (ev_call_ (q := (sS (PyData.int v_1), [PyData.int a_m])) (D := [.inl (PyData.int a_m)]) (L := []) (aCons (fun _ h => by cases h) (xSh rfl) aNil) rfl (w_signs_by_four (k + 0) a_m v_1 h_v_1) rfl rfl)) rfl (show _ ∧ _ from ⟨rfl, rfl⟩)
theorem w_has_two_squares (k : Nat) (a_m : Int) (r : Bool) (h : m_has_two_squares a_m = some r) : cl (k + 4) "has_two_squares" [sS (PyData.int a_m)] = some (sS (PyData.bool r), [PyData.int a_m]) := by
  show runDef (cl (k + 3)) 100000 1 1 d_has_two_squares.body [sS (PyData.int a_m)] = _
  refine run_ok rfl rfl ?_
  show Ok (cl (k + 3)) 100000 d_has_two_squares.body [some (sS (PyData.int a_m))] _
  unfold m_has_two_squares at h
  unfold d_has_two_squares
  obtain ⟨v_1, h_v_1, h⟩ := Mir.bindS h
  have h := Option.some.inj h; subst h
  exact Ok.ret (cGt (ev_call_ (q := (sS (PyData.int v_1), [PyData.int a_m])) (D := [.inl (PyData.int a_m)]) (L := []) (aCons (fun _ h => by cases h) (xSh rfl) aNil) rfl (w_signs_by_four (k + 0) a_m v_1 h_v_1) rfl rfl) xI) rfl (show _ ∧ _ from ⟨rfl, rfl⟩)
abbrev R_odd_part_0  (st0 : Int) (ρ : En) : Prop := ρ = [some (sS (PyData.int st0))]
theorem t_odd_part_0 (k : Nat)  (st0 : Int) (b : Bool) (ρ : En) (hR : R_odd_part_0  st0 ρ) (h : c_odd_part_0  st0 = some b) : ∃ ρ', tv (cl (k + 0)) p_odd_part_0 ρ = some (b, ρ') ∧ R_odd_part_0  st0 ρ' := by
  obtain rfl := hR
  unfold c_odd_part_0 at h
  have h := Option.some.inj h; subst h
  exact ⟨[some (sS (PyData.int st0))], (by unfold p_odd_part_0; exact (tB (cEqI (bModK (by decide) (xV rfl) xI) xI))), rfl⟩
theorem s_odd_part_0 (k : Nat)  (st0 s2 : Int) (ρ : En) (hR : R_odd_part_0  st0 ρ) (hc0 : c_odd_part_0  st0 = some true) (h : m_odd_part_0  st0 = some s2) : ∃ ρ', exs (cl (k + 0)) 100000 p_odd_part_1 ρ = some (.nx ρ') ∧ R_odd_part_0  s2 ρ' := by
  obtain rfl := hR
  refine nx_of ?_
  show Ok (cl (k + 0)) 100000 p_odd_part_1 [some (sS (PyData.int st0))] (Nx (R_odd_part_0  s2))
  unfold p_odd_part_1
  unfold m_odd_part_0 at h
  obtain ⟨m_1, h_m_1, h⟩ := Mir.bindS h
  have e_m_1 := Option.some.inj h_m_1
  refine Ok.asg (ρ' := [some (sS (PyData.int m_1))]) (bDivK (by decide) (xV rfl) xI) (by subst e_m_1; rfl) ?_
  have h := Option.some.inj h; subst h
  exact Ok.nil rfl
theorem w_odd_part (k : Nat) (a_m : Int) (r : Int) (h : m_odd_part a_m = some r) : cl (k + 1) "odd_part" [sS (PyData.int a_m)] = some (sS (PyData.int r), [PyData.int a_m]) := by
  show runDef (cl (k + 0)) 100000 1 1 d_odd_part.body [sS (PyData.int a_m)] = _
  refine run_ok rfl rfl ?_
  show Ok (cl (k + 0)) 100000 d_odd_part.body [some (sS (PyData.int a_m))] _
  unfold m_odd_part at h
  unfold d_odd_part
  obtain ⟨s_1, h_s_1, h⟩ := Mir.bindS h
  obtain ⟨ρ_s_1, hl_s_1, rfl⟩ := while_ok c_odd_part_0 m_odd_part_0 R_odd_part_0 (t_odd_part_0 k ) (s_odd_part_0 k ) 100000 _ _ _ rfl h_s_1
  refine Ok.whl hl_s_1 ?_
  show Ok _ _ _ [some (sS (PyData.int s_1))] _
  have h := Option.some.inj h; subst h
  exact Ok.ret (xMv rfl) rfl (show _ ∧ _ from ⟨rfl, rfl⟩)
theorem w_count_four_squares (k : Nat) (a_m : Int) (r : Int) (h : m_count_four_squares a_m = some r) : cl (k + 3) "count_four_squares" [sS (PyData.int a_m)] = some (sS (PyData.int r), [PyData.int a_m]) := by
  show runDef (cl (k + 2)) 100000 1 2 d_count_four_squares.body [sS (PyData.int a_m)] = _
  refine run_ok rfl rfl ?_
  show Ok (cl (k + 2)) 100000 d_count_four_squares.body [some (sS (PyData.int a_m)), none] _
  unfold m_count_four_squares at h
  unfold d_count_four_squares
  by_cases hc : (decide (a_m = (0 : Int))) = true
  · rw [if_pos hc] at h
    refine Ok.ifT (by rw [← hc]; exact (tB (cEqI (xV rfl) xI))) ?_
    have h := Option.some.inj h; subst h
    exact Ok.ret xI rfl (show _ ∧ _ from ⟨rfl, rfl⟩)
  · rw [if_neg hc] at h
    have hc := Bool.eq_false_iff.mpr hc
    refine Ok.ifF (by rw [← hc]; exact (tB (cEqI (xV rfl) xI))) ?_
    refine Ok.nil ?_
    show Ok _ _ _ [some (sS (PyData.int a_m)), none] _
    obtain ⟨v_1, h_v_1, h⟩ := Mir.bindS h
    obtain ⟨v_2, h_v_2, h⟩ := Mir.bindS h
    refine Ok.asg (ρ' := [some (sS (PyData.int a_m)), some (sS (PyData.int v_2.sum))]) (sumT (ev_call_ (q := (sS ((eT PyData.int) v_2), [PyData.int v_1])) (D := [.inl (PyData.int v_1)]) (L := []) (aCons (fun _ h => by cases h) (ev_call_ (q := (sS (PyData.int v_1), [PyData.int a_m])) (D := [.inl (PyData.int a_m)]) (L := []) (aCons (fun _ h => by cases h) (xSh rfl) aNil) rfl (w_odd_part (k + 1) a_m v_1 h_v_1) rfl rfl) aNil) rfl (w_divisors_of (k + 0) v_1 v_2 h_v_2) rfl rfl)) rfl ?_
    by_cases hc : (decide ((Int.fmod a_m (2 : Int)) = (1 : Int))) = true
    · rw [if_pos hc] at h
      refine Ok.ifT (by rw [← hc]; exact (tB (cEqI (bModK (by decide) (xV rfl) xI) xI))) ?_
      have h := Option.some.inj h; subst h
      exact Ok.ret (bMulK (mul_small' (by decide)) xI (xV rfl)) rfl (show _ ∧ _ from ⟨rfl, rfl⟩)
    · rw [if_neg hc] at h
      have hc := Bool.eq_false_iff.mpr hc
      refine Ok.ifF (by rw [← hc]; exact (tB (cEqI (bModK (by decide) (xV rfl) xI) xI))) ?_
      refine Ok.nil ?_
      show Ok _ _ _ [some (sS (PyData.int a_m)), some (sS (PyData.int v_2.sum))] _
      have h := Option.some.inj h; subst h
      exact Ok.ret (bMulK (mul_small' (by decide)) xI (xV rfl)) rfl (show _ ∧ _ from ⟨rfl, rfl⟩)
theorem w_odd_divisors (k : Nat) (a_number : Int) (r : List Int) (h : m_odd_divisors a_number = some r) : cl (k + 3) "odd_divisors" [sS (PyData.int a_number)] = some (oS ((eL PyData.int) r), [PyData.int a_number]) := by
  show runDef (cl (k + 2)) 100000 1 2 d_odd_divisors.body [sS (PyData.int a_number)] = _
  refine run_ok rfl rfl ?_
  show Ok (cl (k + 2)) 100000 d_odd_divisors.body [some (sS (PyData.int a_number)), none] _
  unfold m_odd_divisors at h
  unfold d_odd_divisors
  obtain ⟨v_1, h_v_1, h⟩ := Mir.bindS h
  obtain ⟨v_2, h_v_2, h⟩ := Mir.bindS h
  have h := Option.some.inj h; subst h
  exact Ok.ret (compIf_ (fa := PyData.int) (fb := PyData.int) h_v_2 (iE (d := (eT PyData.int) v_1) rfl (ev_call_ (q := (sS ((eT PyData.int) v_1), [PyData.int a_number])) (D := [.inl (PyData.int a_number)]) (L := []) (aCons (fun _ h => by cases h) (xSh rfl) aNil) rfl (w_divisors_of (k + 0) a_number v_1 h_v_1) rfl rfl)) (ownFree1 fr_n) (fun x_1 b h => (by have h := Option.some.inj h; subst h; exact ⟨[some (sS (PyData.int a_number)), some (sS (PyData.int x_1))], rfl, (by unfold p_odd_divisors_0; exact (tB (cEqI (bModK (by decide) (xV rfl) xI) xI))), rfl, fun _ y h => (by have h := Option.some.inj h; subst h; exact ⟨[some (sS (PyData.int a_number)), some (sS (PyData.int x_1))], .sh, (by unfold p_odd_divisors_1; exact (xSh rfl)), rfl, rfl⟩)⟩)) rfl) rfl (show _ ∧ _ from ⟨rfl, rfl⟩)
abbrev R_odd_quadruples_1 (a_m : Int) (e0 : Int) (late_1 : Int) (st1 : (List (Int × Int × Int × Int))) (ρ : En) : Prop := ∃ u_4 : Option Sl, ρ = [some (sS (PyData.int a_m)), some (oS ((eL (eP4 PyData.int PyData.int PyData.int PyData.int)) st1)), some (sS (PyData.int e0)), some (sS (PyData.int late_1)), u_4, none]
theorem s_odd_quadruples_1 (k : Nat) (a_m : Int) (e0 : Int) (late_1 : Int) (st1 : (List (Int × Int × Int × Int))) (e1 : Int) (o2 : ((List (Int × Int × Int × Int)))) (ρ : En) (hR : R_odd_quadruples_1 a_m e0 late_1 st1 ρ) (h : m_odd_quadruples_1 a_m e0 late_1 st1 e1 = some o2) : ∃ ρ', turnF (cl (k + 3)) 100000 (.nm 4) p_odd_quadruples_1 ρ (PyData.int e1) = some (.nx ρ') ∧ R_odd_quadruples_1 a_m e0 late_1 o2 ρ' := by
  obtain ⟨u_4, rfl⟩ := hR
  refine nx_of (turn_ok' (ρ1 := [some (sS (PyData.int a_m)), some (oS ((eL (eP4 PyData.int PyData.int PyData.int PyData.int)) st1)), some (sS (PyData.int e0)), some (sS (PyData.int late_1)), some (sS (PyData.int e1)), none]) rfl ?_)
  unfold p_odd_quadruples_1
  unfold m_odd_quadruples_1 at h
  obtain ⟨v_3, h_v_3, h⟩ := Mir.bindS h
  obtain ⟨v_6, h_v_6, h⟩ := Mir.bindS h
  obtain ⟨v_7, h_v_7, h⟩ := Mir.bindS h
  refine Ok.exp (ext_ (fa := (eP4 PyData.int PyData.int PyData.int PyData.int)) h_v_7 rfl (comp_ (fa := PyData.int) (fb := (eP4 PyData.int PyData.int PyData.int PyData.int)) h_v_6 (iE (d := (eL PyData.int) v_3) rfl (ev_call_ (q := (oS ((eL PyData.int) v_3), [PyData.int late_1])) (D := [.inl (PyData.int late_1)]) (L := []) (aCons (fun _ h => by cases h) (xSh rfl) aNil) rfl (w_odd_divisors (k + 0) late_1 v_3 h_v_3) rfl rfl)) (ownFree1 fr_n) (fun x_1 y h => (by obtain ⟨v_4, h_v_4, h⟩ := Mir.bindS h; obtain ⟨v_5, h_v_5, h⟩ := Mir.bindS h; have h := Option.some.inj h; subst h; exact ⟨[some (sS (PyData.int a_m)), some (oS ((eL (eP4 PyData.int PyData.int PyData.int PyData.int)) st1)), some (sS (PyData.int e0)), some (sS (PyData.int late_1)), some (sS (PyData.int e1)), some (sS (PyData.int x_1))], [some (sS (PyData.int a_m)), some (oS ((eL (eP4 PyData.int PyData.int PyData.int PyData.int)) st1)), some (sS (PyData.int e0)), some (sS (PyData.int late_1)), some (sS (PyData.int e1)), some (sS (PyData.int x_1))], .sh, rfl, (by unfold p_odd_quadruples_0; exact (dT (lCons (xSh rfl) (lCons (bDiv h_v_4 (xV rfl) (xV rfl)) (lCons (xSh rfl) (lCons (bDiv h_v_5 (xV rfl) (xV rfl)) lNil)))) (Nat.le_of_ble_eq_true rfl))), rfl, rfl⟩)) rfl) rfl rfl) ?_
  show Ok _ _ _ [some (sS (PyData.int a_m)), some (oS ((eL (eP4 PyData.int PyData.int PyData.int PyData.int)) v_7)), some (sS (PyData.int e0)), some (sS (PyData.int late_1)), some (sS (PyData.int e1)), none] _
  have h := Option.some.inj h; subst h
  exact Ok.nil ⟨_, rfl⟩
abbrev R_odd_quadruples_0 (a_m : Int) (st0 : (List (Int × Int × Int × Int))) (ρ : En) : Prop := ∃ u_1 u_2 u_3 : Option Sl, ρ = [some (sS (PyData.int a_m)), some (oS ((eL (eP4 PyData.int PyData.int PyData.int PyData.int)) st0)), u_3, u_1, u_2, none]
theorem s_odd_quadruples_0 (k : Nat) (a_m : Int) (st0 : (List (Int × Int × Int × Int))) (e0 : Int) (o2 : ((List (Int × Int × Int × Int)))) (ρ : En) (hR : R_odd_quadruples_0 a_m st0 ρ) (h : m_odd_quadruples_0 a_m st0 e0 = some o2) : ∃ ρ', turnF (cl (k + 3)) 100000 (.nm 2) p_odd_quadruples_2 ρ (PyData.int e0) = some (.nx ρ') ∧ R_odd_quadruples_0 a_m o2 ρ' := by
  obtain ⟨u_1, u_2, u_3, rfl⟩ := hR
  refine nx_of (turn_ok' (ρ1 := [some (sS (PyData.int a_m)), some (oS ((eL (eP4 PyData.int PyData.int PyData.int PyData.int)) st0)), some (sS (PyData.int e0)), u_1, u_2, none]) rfl ?_)
  unfold p_odd_quadruples_2
  unfold m_odd_quadruples_0 at h
  obtain ⟨late_1, h_late_1, h⟩ := Mir.bindS h
  have e_late_1 := Option.some.inj h_late_1
  refine Ok.asg (ρ' := [some (sS (PyData.int a_m)), some (oS ((eL (eP4 PyData.int PyData.int PyData.int PyData.int)) st0)), some (sS (PyData.int e0)), some (sS (PyData.int late_1)), u_2, none]) (bSub (bMulK (mul_small' (by decide)) xI (xV rfl)) (xV rfl)) (by subst e_late_1; rfl) ?_
  obtain ⟨v_2, h_v_2, h⟩ := Mir.bindS h
  obtain ⟨s_1, h_s_1, h⟩ := Mir.bindS h
  obtain ⟨ρ_s_1, hl_s_1, u_5, rfl⟩ := for_ok PyData.int (m_odd_quadruples_1 a_m e0 late_1) (R_odd_quadruples_1 a_m e0 late_1) (s_odd_quadruples_1 k a_m e0 late_1) v_2 _ _ _ ⟨u_2, rfl⟩ h_s_1
  refine Ok.for_ (iE (d := (eL PyData.int) v_2) rfl (ev_call_ (q := (oS ((eL PyData.int) v_2), [PyData.int e0])) (D := [.inl (PyData.int e0)]) (L := []) (aCons (fun _ h => by cases h) (xSh rfl) aNil) rfl (w_odd_divisors (k + 0) e0 v_2 h_v_2) rfl rfl)) hl_s_1 ?_
  show Ok _ _ _ [some (sS (PyData.int a_m)), some (oS ((eL (eP4 PyData.int PyData.int PyData.int PyData.int)) s_1)), some (sS (PyData.int e0)), some (sS (PyData.int late_1)), u_5, none] _
  have h := Option.some.inj h; subst h
  exact Ok.nil ⟨_, _, _, rfl⟩
theorem w_odd_quadruples (k : Nat) (a_m : Int) (r : List (Int × Int × Int × Int)) (h : m_odd_quadruples a_m = some r) : cl (k + 4) "odd_quadruples" [sS (PyData.int a_m)] = some (sS ((eT (eP4 PyData.int PyData.int PyData.int PyData.int)) r), [PyData.int a_m]) := by
  show runDef (cl (k + 3)) 100000 1 6 d_odd_quadruples.body [sS (PyData.int a_m)] = _
  refine run_ok rfl rfl ?_
  show Ok (cl (k + 3)) 100000 d_odd_quadruples.body [some (sS (PyData.int a_m)), none, none, none, none, none] _
  unfold m_odd_quadruples at h
  unfold d_odd_quadruples
  refine Ok.asg (ρ' := [some (sS (PyData.int a_m)), some (oS ((eL (eP4 PyData.int PyData.int PyData.int PyData.int)) [])), none, none, none, none]) (dL (lNilM (fa := (eP4 PyData.int PyData.int PyData.int PyData.int))) (Nat.le_of_ble_eq_true rfl)) rfl ?_
  obtain ⟨v_1, h_v_1, h⟩ := Mir.bindS h
  obtain ⟨s_2, h_s_2, h⟩ := Mir.bindS h
  obtain ⟨ρ_s_2, hl_s_2, u_6, u_7, u_8, rfl⟩ := for_ok PyData.int (m_odd_quadruples_0 a_m) (R_odd_quadruples_0 a_m) (s_odd_quadruples_0 k a_m) v_1 _ _ _ ⟨none, none, none, rfl⟩ h_s_2
  refine Ok.for_ (iR3 h_v_1 xI (bMulK (mul_small' (by decide)) xI (xV rfl)) xI) hl_s_2 ?_
  show Ok _ _ _ [some (sS (PyData.int a_m)), some (oS ((eL (eP4 PyData.int PyData.int PyData.int PyData.int)) s_2)), u_8, u_6, u_7, none] _
  obtain ⟨v_8, h_v_8, h⟩ := Mir.bindS h
  have h := Option.some.inj h; subst h
  exact Ok.ret (b1TL (srtC h_v_8 (xVo rfl))) rfl (show _ ∧ _ from ⟨rfl, rfl⟩)
theorem w_quadruple_sign (k : Nat) (a_one : Int × Int × Int × Int) (r : Int) (h : m_quadruple_sign a_one = some r) : cl (k + 1) "quadruple_sign" [sS ((eP4 PyData.int PyData.int PyData.int PyData.int) a_one)] = some (sS (PyData.int r), [(eP4 PyData.int PyData.int PyData.int PyData.int) a_one]) := by
  show runDef (cl (k + 0)) 100000 1 2 d_quadruple_sign.body [sS ((eP4 PyData.int PyData.int PyData.int PyData.int) a_one)] = _
  refine run_ok rfl rfl ?_
  show Ok (cl (k + 0)) 100000 d_quadruple_sign.body [some (sS ((eP4 PyData.int PyData.int PyData.int PyData.int) a_one)), none] _
  unfold m_quadruple_sign at h
  unfold d_quadruple_sign
  obtain ⟨half_1, h_half_1, h⟩ := Mir.bindS h
  have e_half_1 := Option.some.inj h_half_1
  refine Ok.asg (ρ' := [some (sS ((eP4 PyData.int PyData.int PyData.int PyData.int) a_one)), some (sS (PyData.int half_1))]) (bDivK (by decide) (bSub (ixP rfl (xV rfl) xI) (ixP rfl (xV rfl) xI)) xI) (by subst e_half_1; rfl) ?_
  by_cases hc : (decide ((Int.fmod half_1 (2 : Int)) = (0 : Int))) = true
  · rw [if_pos hc] at h
    refine Ok.ifT (by rw [← hc]; exact (tB (cEqI (bModK (by decide) (xV rfl) xI) xI))) ?_
    have h := Option.some.inj h; subst h
    exact Ok.ret xI rfl (show _ ∧ _ from ⟨rfl, rfl⟩)
  · rw [if_neg hc] at h
    have hc := Bool.eq_false_iff.mpr hc
    refine Ok.ifF (by rw [← hc]; exact (tB (cEqI (bModK (by decide) (xV rfl) xI) xI))) ?_
    refine Ok.nil ?_
    show Ok _ _ _ [some (sS ((eP4 PyData.int PyData.int PyData.int PyData.int) a_one)), some (sS (PyData.int half_1))] _
    have h := Option.some.inj h; subst h
    exact Ok.ret (bNeg xI) rfl (show _ ∧ _ from ⟨rfl, rfl⟩)
theorem w_pairs_exchanged (k : Nat) (a_one : Int × Int × Int × Int) (r : Int × Int × Int × Int) (h : m_pairs_exchanged a_one = some r) : cl (k + 1) "pairs_exchanged" [sS ((eP4 PyData.int PyData.int PyData.int PyData.int) a_one)] = some (sS ((eP4 PyData.int PyData.int PyData.int PyData.int) r), [(eP4 PyData.int PyData.int PyData.int PyData.int) a_one]) := by
  show runDef (cl (k + 0)) 100000 1 1 d_pairs_exchanged.body [sS ((eP4 PyData.int PyData.int PyData.int PyData.int) a_one)] = _
  refine run_ok rfl rfl ?_
  show Ok (cl (k + 0)) 100000 d_pairs_exchanged.body [some (sS ((eP4 PyData.int PyData.int PyData.int PyData.int) a_one))] _
  unfold m_pairs_exchanged at h
  unfold d_pairs_exchanged
  have h := Option.some.inj h; subst h
  exact Ok.ret (dT (lCons (ixP rfl (xV rfl) xI) (lCons (ixP rfl (xV rfl) xI) (lCons (ixP rfl (xV rfl) xI) (lCons (ixP rfl (xV rfl) xI) lNil)))) (Nat.le_of_ble_eq_true rfl)) rfl (show _ ∧ _ from ⟨rfl, rfl⟩)
theorem w_turned_down (k : Nat) (a_one : Int × Int × Int × Int) (r : Int × Int × Int × Int) (h : m_turned_down a_one = some r) : cl (k + 1) "turned_down" [sS ((eP4 PyData.int PyData.int PyData.int PyData.int) a_one)] = some (sS ((eP4 PyData.int PyData.int PyData.int PyData.int) r), [(eP4 PyData.int PyData.int PyData.int PyData.int) a_one]) := by
  show runDef (cl (k + 0)) 100000 1 8 d_turned_down.body [sS ((eP4 PyData.int PyData.int PyData.int PyData.int) a_one)] = _
  refine run_ok rfl rfl ?_
  show Ok (cl (k + 0)) 100000 d_turned_down.body [some (sS ((eP4 PyData.int PyData.int PyData.int PyData.int) a_one)), none, none, none, none, none, none, none] _
  unfold m_turned_down at h
  unfold d_turned_down
  refine Ok.asg (ρ' := [some (sS ((eP4 PyData.int PyData.int PyData.int PyData.int) a_one)), some (sS (PyData.int a_one.1)), some (sS (PyData.int a_one.2.1)), some (sS (PyData.int a_one.2.2.1)), some (sS (PyData.int a_one.2.2.2)), none, none, none]) (xSh rfl) rfl ?_
  obtain ⟨apart_1, h_apart_1, h⟩ := Mir.bindS h
  obtain ⟨both_1, h_both_1, h⟩ := Mir.bindS h
  have e_apart_1 := Option.some.inj h_apart_1
  have e_both_1 := Option.some.inj h_both_1
  refine Ok.par (ρ' := [some (sS ((eP4 PyData.int PyData.int PyData.int PyData.int) a_one)), some (sS (PyData.int a_one.1)), some (sS (PyData.int a_one.2.1)), some (sS (PyData.int a_one.2.2.1)), some (sS (PyData.int a_one.2.2.2)), some (sS (PyData.int apart_1)), some (sS (PyData.int both_1)), none]) (evP_cons_ (bSub (xV rfl) (xV rfl)) rfl (evP_cons_ (bAdd (xV rfl) (xV rfl)) rfl evP_nil_)) (by subst e_apart_1; subst e_both_1; rfl) ?_
  obtain ⟨v_1, h_v_1, h⟩ := Mir.bindS h
  refine Ok.asg (ρ' := [some (sS ((eP4 PyData.int PyData.int PyData.int PyData.int) a_one)), some (sS (PyData.int a_one.1)), some (sS (PyData.int a_one.2.1)), some (sS (PyData.int a_one.2.2.1)), some (sS (PyData.int a_one.2.2.2)), some (sS (PyData.int apart_1)), some (sS (PyData.int both_1)), some (sS (PyData.int v_1))]) (bDiv h_v_1 (xV rfl) (xV rfl)) rfl ?_
  obtain ⟨v_2, h_v_2, h⟩ := Mir.bindS h
  obtain ⟨v_3, h_v_3, h⟩ := Mir.bindS h
  obtain ⟨v_4, h_v_4, h⟩ := Mir.bindS h
  obtain ⟨v_5, h_v_5, h⟩ := Mir.bindS h
  have h := Option.some.inj h; subst h
  exact Ok.ret (dT (lCons (bAdd (xV rfl) (bMul h_v_2 (bAdd (xV rfl) xI) (xV rfl))) (lCons (bSub (xV rfl) (bMul h_v_3 (xV rfl) (xV rfl))) (lCons (bAdd (xV rfl) (bMul h_v_4 (xV rfl) (xV rfl))) (lCons (bSub (bMul h_v_5 (bAdd (xV rfl) xI) (xV rfl)) (xV rfl)) lNil)))) (Nat.le_of_ble_eq_true rfl)) rfl (show _ ∧ _ from ⟨rfl, rfl⟩)
theorem w_turned_quadruple (k : Nat) (a_one : Int × Int × Int × Int) (r : Int × Int × Int × Int) (h : m_turned_quadruple a_one = some r) : cl (k + 2) "turned_quadruple" [sS ((eP4 PyData.int PyData.int PyData.int PyData.int) a_one)] = some (sS ((eP4 PyData.int PyData.int PyData.int PyData.int) r), [(eP4 PyData.int PyData.int PyData.int PyData.int) a_one]) := by
  show runDef (cl (k + 1)) 100000 1 1 d_turned_quadruple.body [sS ((eP4 PyData.int PyData.int PyData.int PyData.int) a_one)] = _
  refine run_ok rfl rfl ?_
  show Ok (cl (k + 1)) 100000 d_turned_quadruple.body [some (sS ((eP4 PyData.int PyData.int PyData.int PyData.int) a_one))] _
  unfold m_turned_quadruple at h
  unfold d_turned_quadruple
  by_cases hc : (decide (a_one.1 < a_one.2.2.1)) = true
  · rw [if_pos hc] at h
    refine Ok.ifT (by rw [← hc]; exact (tB (cLt (ixP rfl (xV rfl) xI) (ixP rfl (xV rfl) xI)))) ?_
    obtain ⟨v_1, h_v_1, h⟩ := Mir.bindS h
    obtain ⟨v_2, h_v_2, h⟩ := Mir.bindS h
    obtain ⟨v_3, h_v_3, h⟩ := Mir.bindS h
    have h := Option.some.inj h; subst h
    exact Ok.ret (ev_call_ (q := (sS ((eP4 PyData.int PyData.int PyData.int PyData.int) v_3), [(eP4 PyData.int PyData.int PyData.int PyData.int) v_2])) (D := [.inl ((eP4 PyData.int PyData.int PyData.int PyData.int) v_2)]) (L := []) (aCons (fun _ h => by cases h) (ev_call_ (q := (sS ((eP4 PyData.int PyData.int PyData.int PyData.int) v_2), [(eP4 PyData.int PyData.int PyData.int PyData.int) v_1])) (D := [.inl ((eP4 PyData.int PyData.int PyData.int PyData.int) v_1)]) (L := []) (aCons (fun _ h => by cases h) (ev_call_ (q := (sS ((eP4 PyData.int PyData.int PyData.int PyData.int) v_1), [(eP4 PyData.int PyData.int PyData.int PyData.int) a_one])) (D := [.inl ((eP4 PyData.int PyData.int PyData.int PyData.int) a_one)]) (L := []) (aCons (fun _ h => by cases h) (xSh rfl) aNil) rfl (w_pairs_exchanged (k + 0) a_one v_1 h_v_1) rfl rfl) aNil) rfl (w_turned_down (k + 0) v_1 v_2 h_v_2) rfl rfl) aNil) rfl (w_pairs_exchanged (k + 0) v_2 v_3 h_v_3) rfl rfl) rfl (show _ ∧ _ from ⟨rfl, rfl⟩)
  · rw [if_neg hc] at h
    have hc := Bool.eq_false_iff.mpr hc
    refine Ok.ifF (by rw [← hc]; exact (tB (cLt (ixP rfl (xV rfl) xI) (ixP rfl (xV rfl) xI)))) ?_
    refine Ok.nil ?_
    show Ok _ _ _ [some (sS ((eP4 PyData.int PyData.int PyData.int PyData.int) a_one))] _
    obtain ⟨v_4, h_v_4, h⟩ := Mir.bindS h
    have h := Option.some.inj h; subst h
    exact Ok.ret (ev_call_ (q := (sS ((eP4 PyData.int PyData.int PyData.int PyData.int) v_4), [(eP4 PyData.int PyData.int PyData.int PyData.int) a_one])) (D := [.inl ((eP4 PyData.int PyData.int PyData.int PyData.int) a_one)]) (L := []) (aCons (fun _ h => by cases h) (xSh rfl) aNil) rfl (w_turned_down (k + 0) a_one v_4 h_v_4) rfl rfl) rfl (show _ ∧ _ from ⟨rfl, rfl⟩)
theorem w_signs_added (k : Nat) (a_m : Int) (r : Int) (h : m_signs_added a_m = some r) : cl (k + 5) "signs_added" [sS (PyData.int a_m)] = some (sS (PyData.int r), [PyData.int a_m]) := by
  show runDef (cl (k + 4)) 100000 1 2 d_signs_added.body [sS (PyData.int a_m)] = _
  refine run_ok rfl rfl ?_
  show Ok (cl (k + 4)) 100000 d_signs_added.body [some (sS (PyData.int a_m)), none] _
  unfold m_signs_added at h
  unfold d_signs_added
  obtain ⟨v_1, h_v_1, h⟩ := Mir.bindS h
  obtain ⟨v_3, h_v_3, h⟩ := Mir.bindS h
  have h := Option.some.inj h; subst h
  exact Ok.ret (sumL (comp_ (fa := (eP4 PyData.int PyData.int PyData.int PyData.int)) (fb := PyData.int) h_v_3 (iE (d := (eT (eP4 PyData.int PyData.int PyData.int PyData.int)) v_1) rfl (ev_call_ (q := (sS ((eT (eP4 PyData.int PyData.int PyData.int PyData.int)) v_1), [PyData.int a_m])) (D := [.inl (PyData.int a_m)]) (L := []) (aCons (fun _ h => by cases h) (xSh rfl) aNil) rfl (w_odd_quadruples (k + 0) a_m v_1 h_v_1) rfl rfl)) (ownFree1 fr_n) (fun x_1 y h => (by obtain ⟨v_2, h_v_2, h⟩ := Mir.bindS h; have h := Option.some.inj h; subst h; exact ⟨[some (sS (PyData.int a_m)), some (sS ((eP4 PyData.int PyData.int PyData.int PyData.int) x_1))], [some (sS (PyData.int a_m)), some (sS ((eP4 PyData.int PyData.int PyData.int PyData.int) x_1))], .sh, rfl, (by unfold p_signs_added_0; exact (ev_call_ (q := (sS (PyData.int v_2), [(eP4 PyData.int PyData.int PyData.int PyData.int) x_1])) (D := [.inl ((eP4 PyData.int PyData.int PyData.int PyData.int) x_1)]) (L := []) (aCons (fun _ h => by cases h) (xSh rfl) aNil) rfl (w_quadruple_sign (k + 3) x_1 v_2 h_v_2) rfl rfl)), rfl, rfl⟩)) rfl)) rfl (show _ ∧ _ from ⟨rfl, rfl⟩)
theorem w_odd_tuples (k : Nat) (a_m : Int) (r : Int) (h : m_odd_tuples a_m = some r) : cl (k + 3) "odd_tuples" [sS (PyData.int a_m)] = some (sS (PyData.int r), [PyData.int a_m]) := by
  show runDef (cl (k + 2)) 100000 1 1 d_odd_tuples.body [sS (PyData.int a_m)] = _
  refine run_ok rfl rfl ?_
  show Ok (cl (k + 2)) 100000 d_odd_tuples.body [some (sS (PyData.int a_m))] _
  unfold m_odd_tuples at h
  unfold d_odd_tuples
  obtain ⟨v_1, h_v_1, h⟩ := Mir.bindS h
  have h := Option.some.inj h; subst h
  exact Ok.ret (sumT (ev_call_ (q := (sS ((eT PyData.int) v_1), [PyData.int a_m])) (D := [.inl (PyData.int a_m)]) (L := []) (aCons (fun _ h => by cases h) (xSh rfl) aNil) rfl (w_divisors_of (k + 0) a_m v_1 h_v_1) rfl rfl)) rfl (show _ ∧ _ from ⟨rfl, rfl⟩)
theorem w_doubled (k : Nat) (a_one : Int × Int × Int × Int) (r : Int × Int × Int × Int) (h : m_doubled a_one = some r) : cl (k + 1) "doubled" [sS ((eP4 PyData.int PyData.int PyData.int PyData.int) a_one)] = some (sS ((eP4 PyData.int PyData.int PyData.int PyData.int) r), [(eP4 PyData.int PyData.int PyData.int PyData.int) a_one]) := by
  show runDef (cl (k + 0)) 100000 1 5 d_doubled.body [sS ((eP4 PyData.int PyData.int PyData.int PyData.int) a_one)] = _
  refine run_ok rfl rfl ?_
  show Ok (cl (k + 0)) 100000 d_doubled.body [some (sS ((eP4 PyData.int PyData.int PyData.int PyData.int) a_one)), none, none, none, none] _
  unfold m_doubled at h
  unfold d_doubled
  refine Ok.asg (ρ' := [some (sS ((eP4 PyData.int PyData.int PyData.int PyData.int) a_one)), some (sS (PyData.int a_one.1)), some (sS (PyData.int a_one.2.1)), some (sS (PyData.int a_one.2.2.1)), some (sS (PyData.int a_one.2.2.2))]) (xSh rfl) rfl ?_
  have h := Option.some.inj h; subst h
  exact Ok.ret (dT (lCons (bAdd (xV rfl) (xV rfl)) (lCons (bSub (xV rfl) (xV rfl)) (lCons (bAdd (xV rfl) (xV rfl)) (lCons (bSub (xV rfl) (xV rfl)) lNil)))) (Nat.le_of_ble_eq_true rfl)) rfl (show _ ∧ _ from ⟨rfl, rfl⟩)
theorem w_halved (k : Nat) (a_one : Int × Int × Int × Int) (r : Option (Int × Int × Int × Int)) (h : m_halved a_one = some r) : cl (k + 1) "halved" [sS ((eP4 PyData.int PyData.int PyData.int PyData.int) a_one)] = some (sS ((eO (eP4 PyData.int PyData.int PyData.int PyData.int)) r), [(eP4 PyData.int PyData.int PyData.int PyData.int) a_one]) := by
  show runDef (cl (k + 0)) 100000 1 5 d_halved.body [sS ((eP4 PyData.int PyData.int PyData.int PyData.int) a_one)] = _
  refine run_ok rfl rfl ?_
  show Ok (cl (k + 0)) 100000 d_halved.body [some (sS ((eP4 PyData.int PyData.int PyData.int PyData.int) a_one)), none, none, none, none] _
  unfold m_halved at h
  unfold d_halved
  refine Ok.asg (ρ' := [some (sS ((eP4 PyData.int PyData.int PyData.int PyData.int) a_one)), some (sS (PyData.int a_one.1)), some (sS (PyData.int a_one.2.1)), some (sS (PyData.int a_one.2.2.1)), some (sS (PyData.int a_one.2.2.2))]) (xSh rfl) rfl ?_
  by_cases hc : (decide ((Int.fmod (a_one.1 + a_one.2.1) (2 : Int)) = (1 : Int))) = true
  · rw [if_pos hc] at h
    refine Ok.ifT (by rw [← hc]; exact (tB (cEqI (bModK (by decide) (bAdd (xV rfl) (xV rfl)) xI) xI))) ?_
    have h := Option.some.inj h; subst h
    exact Ok.ret xN rfl (show _ ∧ _ from ⟨rfl, rfl⟩)
  · rw [if_neg hc] at h
    have hc := Bool.eq_false_iff.mpr hc
    refine Ok.ifF (by rw [← hc]; exact (tB (cEqI (bModK (by decide) (bAdd (xV rfl) (xV rfl)) xI) xI))) ?_
    refine Ok.nil ?_
    show Ok _ _ _ [some (sS ((eP4 PyData.int PyData.int PyData.int PyData.int) a_one)), some (sS (PyData.int a_one.1)), some (sS (PyData.int a_one.2.1)), some (sS (PyData.int a_one.2.2.1)), some (sS (PyData.int a_one.2.2.2))] _
    by_cases hc : (decide ((Int.fmod (a_one.2.2.1 + a_one.2.2.2) (2 : Int)) = (1 : Int))) = true
    · rw [if_pos hc] at h
      refine Ok.ifT (by rw [← hc]; exact (tB (cEqI (bModK (by decide) (bAdd (xV rfl) (xV rfl)) xI) xI))) ?_
      have h := Option.some.inj h; subst h
      exact Ok.ret xN rfl (show _ ∧ _ from ⟨rfl, rfl⟩)
    · rw [if_neg hc] at h
      have hc := Bool.eq_false_iff.mpr hc
      refine Ok.ifF (by rw [← hc]; exact (tB (cEqI (bModK (by decide) (bAdd (xV rfl) (xV rfl)) xI) xI))) ?_
      refine Ok.nil ?_
      show Ok _ _ _ [some (sS ((eP4 PyData.int PyData.int PyData.int PyData.int) a_one)), some (sS (PyData.int a_one.1)), some (sS (PyData.int a_one.2.1)), some (sS (PyData.int a_one.2.2.1)), some (sS (PyData.int a_one.2.2.2))] _
      have h := Option.some.inj h; subst h
      exact Ok.ret (dT (lCons (bDivK (by decide) (bAdd (xV rfl) (xV rfl)) xI) (lCons (bDivK (by decide) (bSub (xV rfl) (xV rfl)) xI) (lCons (bDivK (by decide) (bAdd (xV rfl) (xV rfl)) xI) (lCons (bDivK (by decide) (bSub (xV rfl) (xV rfl)) xI) lNil)))) (Nat.le_of_ble_eq_true rfl)) rfl (show _ ∧ _ from ⟨rfl, rfl⟩)
abbrev R__law_source_0 (a_script : List Int) (st0 : Int) (ρ : En) : Prop := ∃ u_1 : Option Sl, Fr u_1 ∧ ρ = [some (rS ((eL PyData.int) a_script)), some (sS (PyData.int st0)), u_1, none]
theorem s__law_source_0 (k : Nat) (a_script : List Int) (st0 : Int) (e0 : Int) (o2 : Int) (ρ : En) (hR : R__law_source_0 a_script st0 ρ) (h : m__law_source_0 a_script st0 e0 = some o2) : ∃ ρ', turnF (cl (k + 0)) 100000 (.nm 2) p__law_source_0 ρ (PyData.int e0) = some (.nx ρ') ∧ R__law_source_0 a_script o2 ρ' := by
  obtain ⟨u_1, hF_u_1, rfl⟩ := hR
  refine nx_of (turn_ok' (ρ1 := [some (rS ((eL PyData.int) a_script)), some (sS (PyData.int st0)), some (sS (PyData.int e0)), none]) rfl ?_)
  unfold p__law_source_0
  unfold m__law_source_0 at h
  obtain ⟨stirred_1, h_stirred_1, h⟩ := Mir.bindS h
  have e_stirred_1 := Option.some.inj h_stirred_1
  refine Ok.asg (ρ' := [some (rS ((eL PyData.int) a_script)), some (sS (PyData.int stirred_1)), some (sS (PyData.int e0)), none]) (bModK (by decide) (b1I (bAdd (bAdd (bMulK (mul_small (by decide)) (xV rfl) xI) (bMulK (mul_small (by decide)) (xV rfl) xI)) xI)) xI) (by subst e_stirred_1; rfl) ?_
  have h := Option.some.inj h; subst h
  exact Ok.nil ⟨_, fr_s, rfl⟩
theorem w__law_source (k : Nat) (a_script : List Int) (r : Src) (h : m__law_source a_script = some r) : cl (k + 1) "_law_source" [rS ((eL PyData.int) a_script)] = some (rS (eS r), [(eL PyData.int) a_script]) := by
  show runDef (cl (k + 0)) 100000 1 4 d__law_source.body [rS ((eL PyData.int) a_script)] = _
  refine run_ok rfl rfl ?_
  show Ok (cl (k + 0)) 100000 d__law_source.body [some (rS ((eL PyData.int) a_script)), none, none, none] _
  unfold m__law_source at h
  unfold d__law_source
  refine Ok.asg (ρ' := [some (rS ((eL PyData.int) a_script)), some (sS (PyData.int (11 : Int))), none, none]) xI rfl ?_
  obtain ⟨s_1, h_s_1, h⟩ := Mir.bindS h
  obtain ⟨ρ_s_1, hl_s_1, u_2, hF_u_2, rfl⟩ := for_ok PyData.int (m__law_source_0 a_script) (R__law_source_0 a_script) (s__law_source_0 k a_script) a_script _ _ _ ⟨none, fr_n, rfl⟩ h_s_1
  refine Ok.for_ (iScr rfl) hl_s_1 ?_
  show Ok _ _ _ [some (rS ((eL PyData.int) a_script)), some (sS (PyData.int s_1)), u_2, none] _
  obtain ⟨v_1, h_v_1, h⟩ := Mir.bindS h
  refine Ok.asg (ρ' := [some (rS ((eL PyData.int) a_script)), some (sS (PyData.int s_1)), u_2, some (oS ((eL PyData.int) v_1))]) (comp_ (fa := PyData.int) (fb := PyData.int) h_v_1 (iScr rfl) (ownFree1 hF_u_2) (fun x_1 y h => (by have h := Option.some.inj h; subst h; exact ⟨[some (rS ((eL PyData.int) a_script)), some (sS (PyData.int s_1)), some (sS (PyData.int x_1)), none], [some (rS ((eL PyData.int) a_script)), some (sS (PyData.int s_1)), some (sS (PyData.int x_1)), none], .sh, rfl, (by unfold p__law_source_1; exact (b1A (xV rfl))), rfl, rfl⟩)) rfl) rfl ?_
  have h := Option.some.inj h; subst h
  exact Ok.ret (mkS_ (rvL (xVo rfl)) (xSh rfl)) rfl (show _ ∧ _ from ⟨rfl, rfl⟩)
theorem w__law_pick (k : Nat) (a_source : Src) (a_most : Int) (r : Int) (s2 : Src) (h : m__law_pick a_source a_most = some (r, s2)) : cl (k + 1) "_law_pick" [rS (eS a_source), sS (PyData.int a_most)] = some (sS (PyData.int r), [eS s2, PyData.int a_most]) := by
  show runDef (cl (k + 0)) 100000 2 6 d__law_pick.body [rS (eS a_source), sS (PyData.int a_most)] = _
  refine run_ok rfl rfl ?_
  show Ok (cl (k + 0)) 100000 d__law_pick.body [some (rS (eS a_source)), some (sS (PyData.int a_most)), none, none, none, none] _
  unfold m__law_pick at h
  unfold d__law_pick
  by_cases hc : (decide (a_most < (2 : Int))) = true
  · rw [if_pos hc] at h
    refine Ok.ifT (by rw [← hc]; exact (tB (cLt (xV rfl) xI))) ?_
    have h := Prod.mk.inj (Option.some.inj h); obtain ⟨h1, h2⟩ := h; subst h1; subst h2
    exact Ok.ret xI rfl (show _ ∧ _ from ⟨rfl, rfl⟩)
  · rw [if_neg hc] at h
    have hc := Bool.eq_false_iff.mpr hc
    refine Ok.ifF (by rw [← hc]; exact (tB (cLt (xV rfl) xI))) ?_
    refine Ok.nil ?_
    show Ok _ _ _ [some (rS (eS a_source)), some (sS (PyData.int a_most)), none, none, none, none] _
    obtain ⟨z_1, h_z_1, h⟩ := Mir.bindS h
    have e_z_1 := Option.some.inj h_z_1
    refine Ok.pull (ρ' := [some (rS (eS z_1)), some (sS (PyData.int a_most)), none, none, none, none]) rfl rfl rfl (pull_S a_source) (by subst e_z_1; rfl) ?_
    refine Ok.asg (ρ' := [some (rS (eS z_1)), some (sS (PyData.int a_most)), none, some (sS (PyData.int z_1.2.1)), none, none]) (fl_left (s := z_1) rfl) rfl ?_
    by_cases hc : (decide ((1 : Int) < z_1.2.1)) = true
    · rw [if_pos hc] at h
      refine Ok.ifT (by rw [← hc]; exact (tB (cGt (xV rfl) xI))) ?_
      obtain ⟨v_1, h_v_1, h⟩ := Mir.bindS h
      obtain ⟨z_2, h_z_2, h⟩ := Mir.bindS h
      have e_z_2 := Option.some.inj h_z_2
      refine Ok.setf (ρ' := [some (rS (eS z_2)), some (sS (PyData.int a_most)), none, some (sS (PyData.int z_1.2.1)), none, none]) (kp (bDiv h_v_1 (xV rfl) (xV rfl))) rfl (put_left z_1 v_1) (by subst e_z_2; rfl) ?_
      obtain ⟨v_2, h_v_2, h⟩ := Mir.bindS h
      have h := Prod.mk.inj (Option.some.inj h); obtain ⟨h1, h2⟩ := h; subst h1; subst h2
      exact Ok.ret (bMod h_v_2 (b1I (xV rfl)) (xV rfl)) rfl (show _ ∧ _ from ⟨rfl, rfl⟩)
    · rw [if_neg hc] at h
      have hc := Bool.eq_false_iff.mpr hc
      refine Ok.ifF (by rw [← hc]; exact (tB (cGt (xV rfl) xI))) ?_
      refine Ok.nil ?_
      show Ok _ _ _ [some (rS (eS z_1)), some (sS (PyData.int a_most)), none, some (sS (PyData.int z_1.2.1)), none, none] _
      obtain ⟨z_3, h_z_3, h⟩ := Mir.bindS h
      have e_z_3 := Option.some.inj h_z_3
      refine Ok.setf (ρ' := [some (rS (eS z_3)), some (sS (PyData.int a_most)), none, some (sS (PyData.int z_1.2.1)), none, none]) (kp (bAdd (fl_turn (s := z_1) rfl) xI)) rfl (put_turn z_1 (z_1.2.2.2 + (1 : Int))) (by subst e_z_3; rfl) ?_
      refine Ok.asg (ρ' := [some (rS (eS z_3)), some (sS (PyData.int a_most)), none, some (sS (PyData.int z_1.2.1)), some (sS (PyData.int z_3.2.2.2)), none]) (fl_turn (s := z_3) rfl) rfl ?_
      obtain ⟨stirred_1, h_stirred_1, h⟩ := Mir.bindS h
      have e_stirred_1 := Option.some.inj h_stirred_1
      refine Ok.asg (ρ' := [some (rS (eS z_3)), some (sS (PyData.int a_most)), none, some (sS (PyData.int z_1.2.1)), some (sS (PyData.int z_3.2.2.2)), some (sS (PyData.int stirred_1))]) (bModK (by decide) (b1I (bAdd (fl_mixed (s := z_3) rfl) (bMulK (mul_small (by decide)) (xV rfl) xI))) xI) (by subst e_stirred_1; rfl) ?_
      obtain ⟨v_3, h_v_3, h⟩ := Mir.bindS h
      obtain ⟨stirred_2, h_stirred_2, h⟩ := Mir.bindS h
      have e_stirred_2 := Option.some.inj h_stirred_2
      refine Ok.asg (ρ' := [some (rS (eS z_3)), some (sS (PyData.int a_most)), none, some (sS (PyData.int z_1.2.1)), some (sS (PyData.int z_3.2.2.2)), some (sS (PyData.int stirred_2))]) (bModK (by decide) (b1I (bAdd (bMul h_v_3 (xV rfl) (xV rfl)) (bMulK (mul_small (by decide)) (xV rfl) xI))) xI) (by subst e_stirred_2; rfl) ?_
      obtain ⟨v_4, h_v_4, h⟩ := Mir.bindS h
      have h := Prod.mk.inj (Option.some.inj h); obtain ⟨h1, h2⟩ := h; subst h1; subst h2
      exact Ok.ret (bMod h_v_4 (b1I (bDivK (by decide) (xV rfl) xI)) (xV rfl)) rfl (show _ ∧ _ from ⟨rfl, rfl⟩)
abbrev R__law_quadruples_1 (a_m : Int) (e0 : Int) (st1 : (List (Int × Int × Int × Int))) (ρ : En) : Prop := ∃ u_4 u_5 : Option Sl, Fr u_5 ∧ ρ = [some (sS (PyData.int a_m)), some (oS ((eL (eP4 PyData.int PyData.int PyData.int PyData.int)) st1)), some (sS (PyData.int e0)), u_5, u_4, none, none]
theorem s__law_quadruples_1 (k : Nat) (a_m : Int) (e0 : Int) (st1 : (List (Int × Int × Int × Int))) (e1 : Int) (o2 : ((List (Int × Int × Int × Int)))) (ρ : En) (hR : R__law_quadruples_1 a_m e0 st1 ρ) (h : m__law_quadruples_1 a_m e0 st1 e1 = some o2) : ∃ ρ', turnF (cl (k + 0)) 100000 (.nm 3) p__law_quadruples_4 ρ (PyData.int e1) = some (.nx ρ') ∧ R__law_quadruples_1 a_m e0 o2 ρ' := by
  obtain ⟨u_4, u_5, hF_u_5, rfl⟩ := hR
  refine nx_of (turn_ok' (ρ1 := [some (sS (PyData.int a_m)), some (oS ((eL (eP4 PyData.int PyData.int PyData.int PyData.int)) st1)), some (sS (PyData.int e0)), some (sS (PyData.int e1)), u_4, none, none]) rfl ?_)
  unfold p__law_quadruples_4
  unfold m__law_quadruples_1 at h
  obtain ⟨v_5, h_v_5, h⟩ := Mir.bindS h
  obtain ⟨late_1, h_late_1, h⟩ := Mir.bindS h
  have e_late_1 := Option.some.inj h_late_1
  refine Ok.asg (ρ' := [some (sS (PyData.int a_m)), some (oS ((eL (eP4 PyData.int PyData.int PyData.int PyData.int)) st1)), some (sS (PyData.int e0)), some (sS (PyData.int e1)), some (sS (PyData.int late_1)), none, none]) (bSub (bMulK (mul_small' (by decide)) xI (xV rfl)) (bMul h_v_5 (xV rfl) (xV rfl))) (by subst e_late_1; rfl) ?_
  obtain ⟨v_6, h_v_6, h⟩ := Mir.bindS h
  obtain ⟨v_9, h_v_9, h⟩ := Mir.bindS h
  obtain ⟨v_10, h_v_10, h⟩ := Mir.bindS h
  refine Ok.asg (ρ' := [some (sS (PyData.int a_m)), some (oS ((eL (eP4 PyData.int PyData.int PyData.int PyData.int)) v_10)), some (sS (PyData.int e0)), some (sS (PyData.int e1)), some (sS (PyData.int late_1)), none, none]) (catLL (fa := (eP4 PyData.int PyData.int PyData.int PyData.int)) h_v_10 (xShO rfl rfl) (compIf_ (fa := PyData.int) (fb := (eP4 PyData.int PyData.int PyData.int PyData.int)) h_v_9 (iR3 h_v_6 xI (bAdd (xV rfl) xI) xI) (ownFree1 fr_n) (fun x_2 b h => (by obtain ⟨v_7, h_v_7, h⟩ := Mir.bindS h; have h := Option.some.inj h; subst h; exact ⟨[some (sS (PyData.int a_m)), some (sS ((eL (eP4 PyData.int PyData.int PyData.int PyData.int)) st1)), some (sS (PyData.int e0)), some (sS (PyData.int e1)), some (sS (PyData.int late_1)), none, some (sS (PyData.int x_2))], rfl, (by unfold p__law_quadruples_2; exact (tB (cEqI (bMod h_v_7 (b1I (xV rfl)) (xV rfl)) xI))), rfl, fun _ y h => (by obtain ⟨v_8, h_v_8, h⟩ := Mir.bindS h; have h := Option.some.inj h; subst h; exact ⟨[some (sS (PyData.int a_m)), some (sS ((eL (eP4 PyData.int PyData.int PyData.int PyData.int)) st1)), some (sS (PyData.int e0)), some (sS (PyData.int e1)), some (sS (PyData.int late_1)), none, some (sS (PyData.int x_2))], .sh, (by unfold p__law_quadruples_3; exact (dT (lCons (xSh rfl) (lCons (xSh rfl) (lCons (xSh rfl) (lCons (bDiv h_v_8 (xV rfl) (xV rfl)) lNil)))) (Nat.le_of_ble_eq_true rfl))), rfl, rfl⟩)⟩)) rfl)) rfl ?_
  have h := Option.some.inj h; subst h
  exact Ok.nil ⟨_, _, fr_s, rfl⟩
abbrev R__law_quadruples_0 (a_m : Int) (st0 : (List (Int × Int × Int × Int))) (ρ : En) : Prop := ∃ u_1 u_2 u_3 : Option Sl, Fr u_1 ∧ ρ = [some (sS (PyData.int a_m)), some (oS ((eL (eP4 PyData.int PyData.int PyData.int PyData.int)) st0)), u_3, u_1, u_2, none, none]
theorem s__law_quadruples_0 (k : Nat) (a_m : Int) (st0 : (List (Int × Int × Int × Int))) (e0 : Int) (o2 : ((List (Int × Int × Int × Int)))) (ρ : En) (hR : R__law_quadruples_0 a_m st0 ρ) (h : m__law_quadruples_0 a_m st0 e0 = some o2) : ∃ ρ', turnF (cl (k + 0)) 100000 (.nm 2) p__law_quadruples_5 ρ (PyData.int e0) = some (.nx ρ') ∧ R__law_quadruples_0 a_m o2 ρ' := by
  obtain ⟨u_1, u_2, u_3, hF_u_1, rfl⟩ := hR
  refine nx_of (turn_ok' (ρ1 := [some (sS (PyData.int a_m)), some (oS ((eL (eP4 PyData.int PyData.int PyData.int PyData.int)) st0)), some (sS (PyData.int e0)), u_1, u_2, none, none]) rfl ?_)
  unfold p__law_quadruples_5
  unfold m__law_quadruples_0 at h
  obtain ⟨v_2, h_v_2, h⟩ := Mir.bindS h
  obtain ⟨v_4, h_v_4, h⟩ := Mir.bindS h
  obtain ⟨s_1, h_s_1, h⟩ := Mir.bindS h
  obtain ⟨ρ_s_1, hl_s_1, u_6, u_7, hF_u_7, rfl⟩ := for_ok PyData.int (m__law_quadruples_1 a_m e0) (R__law_quadruples_1 a_m e0) (s__law_quadruples_1 k a_m e0) v_4 _ _ _ ⟨u_2, u_1, hF_u_1, rfl⟩ h_s_1
  refine Ok.for_ (iE (d := (eL PyData.int) v_4) rfl (compIf_ (fa := PyData.int) (fb := PyData.int) h_v_4 (iR3 h_v_2 xI (bMulK (mul_small' (by decide)) xI (xV rfl)) xI) (ownFree1 hF_u_1) (fun x_1 b h => (by obtain ⟨v_3, h_v_3, h⟩ := Mir.bindS h; have h := Option.some.inj h; subst h; exact ⟨[some (sS (PyData.int a_m)), some (oS ((eL (eP4 PyData.int PyData.int PyData.int PyData.int)) st0)), some (sS (PyData.int e0)), some (sS (PyData.int x_1)), u_2, none, none], rfl, (by unfold p__law_quadruples_0; exact (tB (cLt (bMul h_v_3 (xV rfl) (xV rfl)) (bMulK (mul_small' (by decide)) xI (xV rfl))))), rfl, fun _ y h => (by have h := Option.some.inj h; subst h; exact ⟨[some (sS (PyData.int a_m)), some (oS ((eL (eP4 PyData.int PyData.int PyData.int PyData.int)) st0)), some (sS (PyData.int e0)), some (sS (PyData.int x_1)), u_2, none, none], .sh, (by unfold p__law_quadruples_1; exact (xSh rfl)), rfl, rfl⟩)⟩)) rfl)) hl_s_1 ?_
  show Ok _ _ _ [some (sS (PyData.int a_m)), some (oS ((eL (eP4 PyData.int PyData.int PyData.int PyData.int)) s_1)), some (sS (PyData.int e0)), u_7, u_6, none, none] _
  have h := Option.some.inj h; subst h
  exact Ok.nil ⟨_, _, _, hF_u_7, rfl⟩
theorem w__law_quadruples (k : Nat) (a_m : Int) (r : List (Int × Int × Int × Int)) (h : m__law_quadruples a_m = some r) : cl (k + 1) "_law_quadruples" [sS (PyData.int a_m)] = some (oS ((eL (eP4 PyData.int PyData.int PyData.int PyData.int)) r), [PyData.int a_m]) := by
  show runDef (cl (k + 0)) 100000 1 7 d__law_quadruples.body [sS (PyData.int a_m)] = _
  refine run_ok rfl rfl ?_
  show Ok (cl (k + 0)) 100000 d__law_quadruples.body [some (sS (PyData.int a_m)), none, none, none, none, none, none] _
  unfold m__law_quadruples at h
  unfold d__law_quadruples
  refine Ok.asg (ρ' := [some (sS (PyData.int a_m)), some (oS ((eL (eP4 PyData.int PyData.int PyData.int PyData.int)) [])), none, none, none, none, none]) (dL (lNilM (fa := (eP4 PyData.int PyData.int PyData.int PyData.int))) (Nat.le_of_ble_eq_true rfl)) rfl ?_
  obtain ⟨v_1, h_v_1, h⟩ := Mir.bindS h
  obtain ⟨s_2, h_s_2, h⟩ := Mir.bindS h
  obtain ⟨ρ_s_2, hl_s_2, u_8, u_9, u_10, hF_u_8, rfl⟩ := for_ok PyData.int (m__law_quadruples_0 a_m) (R__law_quadruples_0 a_m) (s__law_quadruples_0 k a_m) v_1 _ _ _ ⟨none, none, none, fr_n, rfl⟩ h_s_2
  refine Ok.for_ (iR3 h_v_1 xI (bMulK (mul_small' (by decide)) xI (xV rfl)) xI) hl_s_2 ?_
  show Ok _ _ _ [some (sS (PyData.int a_m)), some (oS ((eL (eP4 PyData.int PyData.int PyData.int PyData.int)) s_2)), u_10, u_8, u_9, none, none] _
  obtain ⟨v_11, h_v_11, h⟩ := Mir.bindS h
  obtain ⟨v_12, h_v_12, h⟩ := Mir.bindS h
  have h := Option.some.inj h; subst h
  exact Ok.ret (compIf_ (fa := (eP4 PyData.int PyData.int PyData.int PyData.int)) (fb := (eP4 PyData.int PyData.int PyData.int PyData.int)) h_v_12 (iE (d := (eL (eP4 PyData.int PyData.int PyData.int PyData.int)) v_11) rfl (srtC h_v_11 (xVo rfl))) (ownFree1 fr_n) (fun x_3 b h => (by have h := Option.some.inj h; subst h; exact ⟨[some (sS (PyData.int a_m)), some (oS ((eL (eP4 PyData.int PyData.int PyData.int PyData.int)) s_2)), u_10, u_8, u_9, some (sS ((eP4 PyData.int PyData.int PyData.int PyData.int) x_3)), none], rfl, (by unfold p__law_quadruples_6; exact (tB (cEqI (bModK (by decide) (b1I (ixP rfl (xV rfl) xI)) xI) xI))), rfl, fun _ y h => (by have h := Option.some.inj h; subst h; exact ⟨[some (sS (PyData.int a_m)), some (oS ((eL (eP4 PyData.int PyData.int PyData.int PyData.int)) s_2)), u_10, u_8, u_9, some (sS ((eP4 PyData.int PyData.int PyData.int PyData.int) x_3)), none], .sh, (by unfold p__law_quadruples_7; exact (xSh rfl)), rfl, rfl⟩)⟩)) rfl) rfl (show _ ∧ _ from ⟨rfl, rfl⟩)
theorem w__law_sign (k : Nat) (a_one : Int × Int × Int × Int) (r : Int) (h : m__law_sign a_one = some r) : cl (k + 1) "_law_sign" [sS ((eP4 PyData.int PyData.int PyData.int PyData.int) a_one)] = some (sS (PyData.int r), [(eP4 PyData.int PyData.int PyData.int PyData.int) a_one]) := by
  show runDef (cl (k + 0)) 100000 1 1 d__law_sign.body [sS ((eP4 PyData.int PyData.int PyData.int PyData.int) a_one)] = _
  refine run_ok rfl rfl ?_
  show Ok (cl (k + 0)) 100000 d__law_sign.body [some (sS ((eP4 PyData.int PyData.int PyData.int PyData.int) a_one))] _
  unfold m__law_sign at h
  unfold d__law_sign
  have h := Option.some.inj h; subst h
  exact Ok.ret (bSub xI (bMulK (mul_small' (by decide)) xI (bModK (by decide) (b1I (bDivK (by decide) (bSub (ixP rfl (xV rfl) xI) (ixP rfl (xV rfl) xI)) xI)) xI))) rfl (show _ ∧ _ from ⟨rfl, rfl⟩)
theorem w__law_pairs (k : Nat) (a_m : Int) (a_some : List (Int × Int)) (r : Int) (h : m__law_pairs a_m a_some = some r) : cl (k + 1) "_law_pairs" [sS (PyData.int a_m), sS ((eD PyData.int PyData.int) a_some)] = some (sS (PyData.int r), [PyData.int a_m, (eD PyData.int PyData.int) a_some]) := by
  show runDef (cl (k + 0)) 100000 2 4 d__law_pairs.body [sS (PyData.int a_m), sS ((eD PyData.int PyData.int) a_some)] = _
  refine run_ok rfl rfl ?_
  show Ok (cl (k + 0)) 100000 d__law_pairs.body [some (sS (PyData.int a_m)), some (sS ((eD PyData.int PyData.int) a_some)), none, none] _
  unfold m__law_pairs at h
  unfold d__law_pairs
  obtain ⟨v_2, h_v_2, h⟩ := Mir.bindS h
  have h := Option.some.inj h; subst h
  exact Ok.ret (sumL (comp_ (fa := (eP2 PyData.int PyData.int)) (fb := PyData.int) h_v_2 (iIt (fa := PyData.int) (fb := PyData.int) rfl) (ownFree2 fr_n fr_n) (fun x_1 y h => (by obtain ⟨v_1, h_v_1, h⟩ := Mir.bindS h; have h := Option.some.inj h; subst h; exact ⟨[some (sS (PyData.int a_m)), some (sS ((eD PyData.int PyData.int) a_some)), some (sS (PyData.int x_1.1)), some (sS (PyData.int x_1.2))], [some (sS (PyData.int a_m)), some (sS ((eD PyData.int PyData.int) a_some)), some (sS (PyData.int x_1.1)), some (sS (PyData.int x_1.2))], .sh, rfl, (by unfold p__law_pairs_0; exact (bMul h_v_1 (xV rfl) (get2_I (fb := PyData.int) (xV rfl) (bSub (xV rfl) (xV rfl)) xI))), rfl, rfl⟩)) rfl)) rfl (show _ ∧ _ from ⟨rfl, rfl⟩)
abbrev R_law_0 (a_script : List Int) (v_2 : Int × Src) (m_1 : Int) (v_3 : List (Int × Int × Int × Int)) (v_6 : List Int) (st0 : Unit) (ρ : En) : Prop := ∃ u_1 u_2 : Option Sl, Fr u_2 ∧ ρ = [some (rS ((eL PyData.int) a_script)), some (rS (eS v_2.2)), some (sS (PyData.int m_1)), some (sS ((eL (eP4 PyData.int PyData.int PyData.int PyData.int)) v_3)), some (oS ((eL PyData.int) v_6)), u_2, u_1, none, none, none, none, none, none, none, none, none, none, none, none, none, none, none]
theorem s_law_0 (k : Nat) (a_script : List Int) (v_2 : Int × Src) (m_1 : Int) (v_3 : List (Int × Int × Int × Int)) (v_6 : List Int) (st0 : Unit) (e0 : Int × Int × Int × Int) (o2 : Unit ⊕ Bool) (ρ : En) (hR : R_law_0 a_script v_2 m_1 v_3 v_6 st0 ρ) (h : m_law_0 a_script v_2 m_1 v_3 v_6 st0 e0 = some o2) : ∃ q, turnF (cl (k + 5)) 100000 (.nm 5) p_law_2 ρ ((eP4 PyData.int PyData.int PyData.int PyData.int) e0) = some q ∧ RR (R_law_0 a_script v_2 m_1 v_3 v_6) (fun t q => Rt (sS (PyData.bool t)) (fun ρ' => outs ρ' 0 [rS ((eL PyData.int) a_script)] = some [(eL PyData.int) a_script]) q) o2 q := by
  obtain ⟨u_1, u_2, hF_u_2, rfl⟩ := hR
  refine turn_ok' (ρ1 := [some (rS ((eL PyData.int) a_script)), some (rS (eS v_2.2)), some (sS (PyData.int m_1)), some (sS ((eL (eP4 PyData.int PyData.int PyData.int PyData.int)) v_3)), some (oS ((eL PyData.int) v_6)), some (sS ((eP4 PyData.int PyData.int PyData.int PyData.int) e0)), u_1, none, none, none, none, none, none, none, none, none, none, none, none, none, none, none]) rfl ?_
  unfold p_law_2
  unfold m_law_0 at h
  obtain ⟨v_14, h_v_14, h⟩ := Mir.bindS h
  obtain ⟨v_15, h_v_15, h⟩ := Mir.bindS h
  obtain ⟨v_16, h_v_16, h⟩ := Mir.bindS h
  obtain ⟨v_17, h_v_17, h⟩ := Mir.bindS h
  by_cases hc : (!decide (v_15 = v_17)) = true
  · rw [if_pos hc] at h
    refine Ok.ifT (by rw [← hc]; exact (tB (cNeS (rpr h_v_15 (ev_call_ (q := (sS (PyData.int v_14), [(eP4 PyData.int PyData.int PyData.int PyData.int) e0])) (D := [.inl ((eP4 PyData.int PyData.int PyData.int PyData.int) e0)]) (L := []) (aCons (fun _ h => by cases h) (xSh rfl) aNil) rfl (w_quadruple_sign (k + 4) e0 v_14 h_v_14) rfl rfl)) (rpr h_v_17 (ev_call_ (q := (sS (PyData.int v_16), [(eP4 PyData.int PyData.int PyData.int PyData.int) e0])) (D := [.inl ((eP4 PyData.int PyData.int PyData.int PyData.int) e0)]) (L := []) (aCons (fun _ h => by cases h) (xSh rfl) aNil) rfl (w__law_sign (k + 4) e0 v_16 h_v_16) rfl rfl))))) ?_
    have h := Option.some.inj h; subst h
    exact Ok.ret xB rfl (show (_ ∧ _) ∧ _ from ⟨⟨rfl, rfl⟩, _, _, rfl⟩)
  · rw [if_neg hc] at h
    have hc := Bool.eq_false_iff.mpr hc
    refine Ok.ifF (by rw [← hc]; exact (tB (cNeS (rpr h_v_15 (ev_call_ (q := (sS (PyData.int v_14), [(eP4 PyData.int PyData.int PyData.int PyData.int) e0])) (D := [.inl ((eP4 PyData.int PyData.int PyData.int PyData.int) e0)]) (L := []) (aCons (fun _ h => by cases h) (xSh rfl) aNil) rfl (w_quadruple_sign (k + 4) e0 v_14 h_v_14) rfl rfl)) (rpr h_v_17 (ev_call_ (q := (sS (PyData.int v_16), [(eP4 PyData.int PyData.int PyData.int PyData.int) e0])) (D := [.inl ((eP4 PyData.int PyData.int PyData.int PyData.int) e0)]) (L := []) (aCons (fun _ h => by cases h) (xSh rfl) aNil) rfl (w__law_sign (k + 4) e0 v_16 h_v_16) rfl rfl))))) ?_
    refine Ok.nil ?_
    show Ok _ _ _ [some (rS ((eL PyData.int) a_script)), some (rS (eS v_2.2)), some (sS (PyData.int m_1)), some (sS ((eL (eP4 PyData.int PyData.int PyData.int PyData.int)) v_3)), some (oS ((eL PyData.int) v_6)), some (sS ((eP4 PyData.int PyData.int PyData.int PyData.int) e0)), u_1, none, none, none, none, none, none, none, none, none, none, none, none, none, none, none] _
    by_cases hc : (!decide (e0.1 = e0.2.2.1)) = true
    · rw [if_pos hc] at h
      refine Ok.ifT (by rw [← hc]; exact (tB (cNeI (ixP rfl (xV rfl) xI) (ixP rfl (xV rfl) xI)))) ?_
      obtain ⟨v_18, h_v_18, h⟩ := Mir.bindS h
      refine Ok.asg (ρ' := [some (rS ((eL PyData.int) a_script)), some (rS (eS v_2.2)), some (sS (PyData.int m_1)), some (sS ((eL (eP4 PyData.int PyData.int PyData.int PyData.int)) v_3)), some (oS ((eL PyData.int) v_6)), some (sS ((eP4 PyData.int PyData.int PyData.int PyData.int) e0)), some (sS ((eP4 PyData.int PyData.int PyData.int PyData.int) v_18)), none, none, none, none, none, none, none, none, none, none, none, none, none, none, none]) (ev_call_ (q := (sS ((eP4 PyData.int PyData.int PyData.int PyData.int) v_18), [(eP4 PyData.int PyData.int PyData.int PyData.int) e0])) (D := [.inl ((eP4 PyData.int PyData.int PyData.int PyData.int) e0)]) (L := []) (aCons (fun _ h => by cases h) (xSh rfl) aNil) rfl (w_turned_quadruple (k + 3) e0 v_18 h_v_18) rfl rfl) rfl ?_
      obtain ⟨v_23, h_v_23, h⟩ := Mir.bindS h
      by_cases hc : v_23 = true
      · rw [if_pos hc] at h
        refine Ok.ifT (by rw [← hc]; exact (tB (oB (mNinL (eqP4 eqI eqI eqI eqI) (by decide) (xV rfl) (xV rfl)) (fun hc => (by have h := h_v_23; rw [if_neg (by rw [hc]; decide)] at h; obtain ⟨v_19, h_v_19, h⟩ := Mir.bindS h; obtain ⟨v_20, h_v_20, h⟩ := Mir.bindS h; obtain ⟨v_22, h_v_22, h⟩ := Mir.bindS h; have h := Option.some.inj h; subst h; exact (oB (cEqI (ev_call_ (q := (sS (PyData.int v_19), [(eP4 PyData.int PyData.int PyData.int PyData.int) v_18])) (D := [.inl ((eP4 PyData.int PyData.int PyData.int PyData.int) v_18)]) (L := []) (aCons (fun _ h => by cases h) (xSh rfl) aNil) rfl (w__law_sign (k + 4) v_18 v_19 h_v_19) rfl rfl) (ev_call_ (q := (sS (PyData.int v_20), [(eP4 PyData.int PyData.int PyData.int PyData.int) e0])) (D := [.inl ((eP4 PyData.int PyData.int PyData.int PyData.int) e0)]) (L := []) (aCons (fun _ h => by cases h) (xSh rfl) aNil) rfl (w__law_sign (k + 4) e0 v_20 h_v_20) rfl rfl)) (fun hc => (by have h := h_v_22; rw [if_neg (by rw [hc]; decide)] at h; obtain ⟨v_21, h_v_21, h⟩ := Mir.bindS h; have h := Option.some.inj h; subst h; exact (cNeC (fa := (eP4 PyData.int PyData.int PyData.int PyData.int)) (eqP4 eqI eqI eqI eqI) (by decide) (ev_call_ (q := (sS ((eP4 PyData.int PyData.int PyData.int PyData.int) v_21), [(eP4 PyData.int PyData.int PyData.int PyData.int) v_18])) (D := [.inl ((eP4 PyData.int PyData.int PyData.int PyData.int) v_18)]) (L := []) (aCons (fun _ h => by cases h) (xSh rfl) aNil) rfl (w_turned_quadruple (k + 3) v_18 v_21 h_v_21) rfl rfl) (xV rfl) (fun _ _ h => by first | (cases h.1; done) | (cases h.2; done)) (fun _ _ h => by first | (cases h.1; done) | (cases h.2; done))))) (fun hc => (by have h := h_v_22; rw [if_pos hc] at h; exact (Option.some.inj h).symm))))) (fun hc => (by have h := h_v_23; rw [if_pos hc] at h; exact (Option.some.inj h).symm))))) ?_
        have h := Option.some.inj h; subst h
        exact Ok.ret xB rfl (show (_ ∧ _) ∧ _ from ⟨⟨rfl, rfl⟩, _, _, rfl⟩)
      · rw [if_neg hc] at h
        have hc := Bool.eq_false_iff.mpr hc
        refine Ok.ifF (by rw [← hc]; exact (tB (oB (mNinL (eqP4 eqI eqI eqI eqI) (by decide) (xV rfl) (xV rfl)) (fun hc => (by have h := h_v_23; rw [if_neg (by rw [hc]; decide)] at h; obtain ⟨v_19, h_v_19, h⟩ := Mir.bindS h; obtain ⟨v_20, h_v_20, h⟩ := Mir.bindS h; obtain ⟨v_22, h_v_22, h⟩ := Mir.bindS h; have h := Option.some.inj h; subst h; exact (oB (cEqI (ev_call_ (q := (sS (PyData.int v_19), [(eP4 PyData.int PyData.int PyData.int PyData.int) v_18])) (D := [.inl ((eP4 PyData.int PyData.int PyData.int PyData.int) v_18)]) (L := []) (aCons (fun _ h => by cases h) (xSh rfl) aNil) rfl (w__law_sign (k + 4) v_18 v_19 h_v_19) rfl rfl) (ev_call_ (q := (sS (PyData.int v_20), [(eP4 PyData.int PyData.int PyData.int PyData.int) e0])) (D := [.inl ((eP4 PyData.int PyData.int PyData.int PyData.int) e0)]) (L := []) (aCons (fun _ h => by cases h) (xSh rfl) aNil) rfl (w__law_sign (k + 4) e0 v_20 h_v_20) rfl rfl)) (fun hc => (by have h := h_v_22; rw [if_neg (by rw [hc]; decide)] at h; obtain ⟨v_21, h_v_21, h⟩ := Mir.bindS h; have h := Option.some.inj h; subst h; exact (cNeC (fa := (eP4 PyData.int PyData.int PyData.int PyData.int)) (eqP4 eqI eqI eqI eqI) (by decide) (ev_call_ (q := (sS ((eP4 PyData.int PyData.int PyData.int PyData.int) v_21), [(eP4 PyData.int PyData.int PyData.int PyData.int) v_18])) (D := [.inl ((eP4 PyData.int PyData.int PyData.int PyData.int) v_18)]) (L := []) (aCons (fun _ h => by cases h) (xSh rfl) aNil) rfl (w_turned_quadruple (k + 3) v_18 v_21 h_v_21) rfl rfl) (xV rfl) (fun _ _ h => by first | (cases h.1; done) | (cases h.2; done)) (fun _ _ h => by first | (cases h.1; done) | (cases h.2; done))))) (fun hc => (by have h := h_v_22; rw [if_pos hc] at h; exact (Option.some.inj h).symm))))) (fun hc => (by have h := h_v_23; rw [if_pos hc] at h; exact (Option.some.inj h).symm))))) ?_
        refine Ok.nil ?_
        show Ok _ _ _ [some (rS ((eL PyData.int) a_script)), some (rS (eS v_2.2)), some (sS (PyData.int m_1)), some (sS ((eL (eP4 PyData.int PyData.int PyData.int PyData.int)) v_3)), some (oS ((eL PyData.int) v_6)), some (sS ((eP4 PyData.int PyData.int PyData.int PyData.int) e0)), some (sS ((eP4 PyData.int PyData.int PyData.int PyData.int) v_18)), none, none, none, none, none, none, none, none, none, none, none, none, none, none, none] _
        by_cases hc : ((!decide ((decide (v_18.2.2.1 < v_18.1)) = (decide (e0.2.2.1 < e0.1)))) || (!decide ((absI (v_18.1 - v_18.2.2.1)) = (e0.2.1 + e0.2.2.2)))) = true
        · rw [if_pos hc] at h
          refine Ok.ifT (by rw [← hc]; exact (tB (oB2 (cNeC (fa := PyData.bool) eqB (by decide) (cGt (ixP rfl (xV rfl) xI) (ixP rfl (xV rfl) xI)) (cGt (ixP rfl (xV rfl) xI) (ixP rfl (xV rfl) xI)) (fun _ _ h => by first | (cases h.1; done) | (cases h.2; done)) (fun _ _ h => by first | (cases h.1; done) | (cases h.2; done))) (fun _ => (cNeI (b1A (bSub (ixP rfl (xV rfl) xI) (ixP rfl (xV rfl) xI))) (bAdd (ixP rfl (xV rfl) xI) (ixP rfl (xV rfl) xI))))))) ?_
          have h := Option.some.inj h; subst h
          exact Ok.ret xB rfl (show (_ ∧ _) ∧ _ from ⟨⟨rfl, rfl⟩, _, _, rfl⟩)
        · rw [if_neg hc] at h
          have hc := Bool.eq_false_iff.mpr hc
          refine Ok.ifF (by rw [← hc]; exact (tB (oB2 (cNeC (fa := PyData.bool) eqB (by decide) (cGt (ixP rfl (xV rfl) xI) (ixP rfl (xV rfl) xI)) (cGt (ixP rfl (xV rfl) xI) (ixP rfl (xV rfl) xI)) (fun _ _ h => by first | (cases h.1; done) | (cases h.2; done)) (fun _ _ h => by first | (cases h.1; done) | (cases h.2; done))) (fun _ => (cNeI (b1A (bSub (ixP rfl (xV rfl) xI) (ixP rfl (xV rfl) xI))) (bAdd (ixP rfl (xV rfl) xI) (ixP rfl (xV rfl) xI))))))) ?_
          refine Ok.nil ?_
          show Ok _ _ _ [some (rS ((eL PyData.int) a_script)), some (rS (eS v_2.2)), some (sS (PyData.int m_1)), some (sS ((eL (eP4 PyData.int PyData.int PyData.int PyData.int)) v_3)), some (oS ((eL PyData.int) v_6)), some (sS ((eP4 PyData.int PyData.int PyData.int PyData.int) e0)), some (sS ((eP4 PyData.int PyData.int PyData.int PyData.int) v_18)), none, none, none, none, none, none, none, none, none, none, none, none, none, none, none] _
          refine Ok.nil ?_
          show Ok _ _ _ [some (rS ((eL PyData.int) a_script)), some (rS (eS v_2.2)), some (sS (PyData.int m_1)), some (sS ((eL (eP4 PyData.int PyData.int PyData.int PyData.int)) v_3)), some (oS ((eL PyData.int) v_6)), some (sS ((eP4 PyData.int PyData.int PyData.int PyData.int) e0)), some (sS ((eP4 PyData.int PyData.int PyData.int PyData.int) v_18)), none, none, none, none, none, none, none, none, none, none, none, none, none, none, none] _
          have h := Option.some.inj h; subst h
          exact Ok.nil ⟨_, _, fr_s, rfl⟩
    · rw [if_neg hc] at h
      have hc := Bool.eq_false_iff.mpr hc
      refine Ok.ifF (by rw [← hc]; exact (tB (cNeI (ixP rfl (xV rfl) xI) (ixP rfl (xV rfl) xI)))) ?_
      refine Ok.nil ?_
      show Ok _ _ _ [some (rS ((eL PyData.int) a_script)), some (rS (eS v_2.2)), some (sS (PyData.int m_1)), some (sS ((eL (eP4 PyData.int PyData.int PyData.int PyData.int)) v_3)), some (oS ((eL PyData.int) v_6)), some (sS ((eP4 PyData.int PyData.int PyData.int PyData.int) e0)), u_1, none, none, none, none, none, none, none, none, none, none, none, none, none, none, none] _
      have h := Option.some.inj h; subst h
      exact Ok.nil ⟨_, _, fr_s, rfl⟩
abbrev R_law_2 (a_script : List Int) (v_2 : Int × Src) (m_1 : Int) (v_3 : List (Int × Int × Int × Int)) (v_6 : List Int) (v_31 : List Int) (e1 : Int) (st2 : (List (Int × Int))) (ρ : En) : Prop := ∃ u_7 u_4 u_3 : Option Sl, Fr u_4 ∧ ρ = [some (rS ((eL PyData.int) a_script)), some (rS (eS v_2.2)), some (sS (PyData.int m_1)), some (sS ((eL (eP4 PyData.int PyData.int PyData.int PyData.int)) v_3)), some (oS ((eL PyData.int) v_6)), u_4, u_3, some (sS ((eL PyData.int) v_31)), some (oS ((eD PyData.int PyData.int) st2)), some (sS (PyData.int e1)), u_7, none, none, none, none, none, none, none, none, none, none, none]
theorem s_law_2 (k : Nat) (a_script : List Int) (v_2 : Int × Src) (m_1 : Int) (v_3 : List (Int × Int × Int × Int)) (v_6 : List Int) (v_31 : List Int) (e1 : Int) (st2 : (List (Int × Int))) (e2 : Int) (o2 : ((List (Int × Int)))) (ρ : En) (hR : R_law_2 a_script v_2 m_1 v_3 v_6 v_31 e1 st2 ρ) (h : m_law_2 a_script v_2 m_1 v_3 v_6 v_31 e1 st2 e2 = some o2) : ∃ ρ', turnF (cl (k + 5)) 100000 (.nm 10) p_law_5 ρ (PyData.int e2) = some (.nx ρ') ∧ R_law_2 a_script v_2 m_1 v_3 v_6 v_31 e1 o2 ρ' := by
  obtain ⟨u_7, u_4, u_3, hF_u_4, rfl⟩ := hR
  refine nx_of (turn_ok' (ρ1 := [some (rS ((eL PyData.int) a_script)), some (rS (eS v_2.2)), some (sS (PyData.int m_1)), some (sS ((eL (eP4 PyData.int PyData.int PyData.int PyData.int)) v_3)), some (oS ((eL PyData.int) v_6)), u_4, u_3, some (sS ((eL PyData.int) v_31)), some (oS ((eD PyData.int PyData.int) st2)), some (sS (PyData.int e1)), some (sS (PyData.int e2)), none, none, none, none, none, none, none, none, none, none, none]) rfl ?_)
  unfold p_law_5
  unfold m_law_2 at h
  obtain ⟨v_32, h_v_32, h⟩ := Mir.bindS h
  refine Ok.setD_I (fb := PyData.int) (ρ' := [some (rS ((eL PyData.int) a_script)), some (rS (eS v_2.2)), some (sS (PyData.int m_1)), some (sS ((eL (eP4 PyData.int PyData.int PyData.int PyData.int)) v_3)), some (oS ((eL PyData.int) v_6)), u_4, u_3, some (sS ((eL PyData.int) v_31)), some (oS ((eD PyData.int PyData.int) v_32)), some (sS (PyData.int e1)), some (sS (PyData.int e2)), none, none, none, none, none, none, none, none, none, none, none]) h_v_32 (bAdd (get2_I (fb := PyData.int) (xVo rfl) (bAdd (xV rfl) (xV rfl)) xI) xI) rfl (bAdd (xV rfl) (xV rfl)) rfl rfl ?_
  have h := Option.some.inj h; subst h
  exact Ok.nil ⟨_, _, _, hF_u_4, rfl⟩
abbrev R_law_1 (a_script : List Int) (v_2 : Int × Src) (m_1 : Int) (v_3 : List (Int × Int × Int × Int)) (v_6 : List Int) (v_31 : List Int) (st1 : (List (Int × Int))) (ρ : En) : Prop := ∃ u_5 u_6 u_4 u_3 : Option Sl, Fr u_6 ∧ Fr u_4 ∧ ρ = [some (rS ((eL PyData.int) a_script)), some (rS (eS v_2.2)), some (sS (PyData.int m_1)), some (sS ((eL (eP4 PyData.int PyData.int PyData.int PyData.int)) v_3)), some (oS ((eL PyData.int) v_6)), u_4, u_3, some (sS ((eL PyData.int) v_31)), some (oS ((eD PyData.int PyData.int) st1)), u_6, u_5, none, none, none, none, none, none, none, none, none, none, none]
theorem s_law_1 (k : Nat) (a_script : List Int) (v_2 : Int × Src) (m_1 : Int) (v_3 : List (Int × Int × Int × Int)) (v_6 : List Int) (v_31 : List Int) (st1 : (List (Int × Int))) (e1 : Int) (o2 : ((List (Int × Int)))) (ρ : En) (hR : R_law_1 a_script v_2 m_1 v_3 v_6 v_31 st1 ρ) (h : m_law_1 a_script v_2 m_1 v_3 v_6 v_31 st1 e1 = some o2) : ∃ ρ', turnF (cl (k + 5)) 100000 (.nm 9) p_law_6 ρ (PyData.int e1) = some (.nx ρ') ∧ R_law_1 a_script v_2 m_1 v_3 v_6 v_31 o2 ρ' := by
  obtain ⟨u_5, u_6, u_4, u_3, hF_u_6, hF_u_4, rfl⟩ := hR
  refine nx_of (turn_ok' (ρ1 := [some (rS ((eL PyData.int) a_script)), some (rS (eS v_2.2)), some (sS (PyData.int m_1)), some (sS ((eL (eP4 PyData.int PyData.int PyData.int PyData.int)) v_3)), some (oS ((eL PyData.int) v_6)), u_4, u_3, some (sS ((eL PyData.int) v_31)), some (oS ((eD PyData.int PyData.int) st1)), some (sS (PyData.int e1)), u_5, none, none, none, none, none, none, none, none, none, none, none]) rfl ?_)
  unfold p_law_6
  unfold m_law_1 at h
  obtain ⟨s_2, h_s_2, h⟩ := Mir.bindS h
  obtain ⟨ρ_s_2, hl_s_2, u_8, u_9, u_10, hF_u_9, rfl⟩ := for_ok PyData.int (m_law_2 a_script v_2 m_1 v_3 v_6 v_31 e1) (R_law_2 a_script v_2 m_1 v_3 v_6 v_31 e1) (s_law_2 k a_script v_2 m_1 v_3 v_6 v_31 e1) v_31 _ _ _ ⟨u_5, u_4, u_3, hF_u_4, rfl⟩ h_s_2
  refine Ok.for_ (iE (d := (eL PyData.int) v_31) rfl (xSh rfl)) hl_s_2 ?_
  show Ok _ _ _ [some (rS ((eL PyData.int) a_script)), some (rS (eS v_2.2)), some (sS (PyData.int m_1)), some (sS ((eL (eP4 PyData.int PyData.int PyData.int PyData.int)) v_3)), some (oS ((eL PyData.int) v_6)), u_9, u_10, some (sS ((eL PyData.int) v_31)), some (oS ((eD PyData.int PyData.int) s_2)), some (sS (PyData.int e1)), u_8, none, none, none, none, none, none, none, none, none, none, none] _
  have h := Option.some.inj h; subst h
  exact Ok.nil ⟨_, _, _, _, fr_s, hF_u_9, rfl⟩
abbrev R_law_3 (a_script : List Int) (v_37 : Int × Src) (m_1 : Int) (v_3 : List (Int × Int × Int × Int)) (v_6 : List Int) (v_31 : List Int) (s_3 : (List (Int × Int))) (st3 : (List (Int × Int))) (ρ : En) : Prop := ∃ u_15 u_13 u_14 u_11 : Option Sl, Fr u_15 ∧ Fr u_13 ∧ ρ = [some (rS ((eL PyData.int) a_script)), some (rS (eS v_37.2)), some (sS (PyData.int m_1)), some (sS ((eL (eP4 PyData.int PyData.int PyData.int PyData.int)) v_3)), some (oS ((eL PyData.int) v_6)), u_13, u_14, some (sS ((eL PyData.int) v_31)), some (sS ((eD PyData.int PyData.int) s_3)), u_15, u_11, some (sS (PyData.int v_37.1)), some (oS ((eD PyData.int PyData.int) st3)), none, none, none, none, none, none, none, none, none]
theorem s_law_3 (k : Nat) (a_script : List Int) (v_37 : Int × Src) (m_1 : Int) (v_3 : List (Int × Int × Int × Int)) (v_6 : List Int) (v_31 : List Int) (s_3 : (List (Int × Int))) (st3 : (List (Int × Int))) (e3 : Int) (o2 : ((List (Int × Int)))) (ρ : En) (hR : R_law_3 a_script v_37 m_1 v_3 v_6 v_31 s_3 st3 ρ) (h : m_law_3 a_script v_37 m_1 v_3 v_6 v_31 s_3 st3 e3 = some o2) : ∃ ρ', turnF (cl (k + 5)) 100000 (.nm 9) p_law_7 ρ (PyData.int e3) = some (.nx ρ') ∧ R_law_3 a_script v_37 m_1 v_3 v_6 v_31 s_3 o2 ρ' := by
  obtain ⟨u_15, u_13, u_14, u_11, hF_u_15, hF_u_13, rfl⟩ := hR
  refine nx_of (turn_ok' (ρ1 := [some (rS ((eL PyData.int) a_script)), some (rS (eS v_37.2)), some (sS (PyData.int m_1)), some (sS ((eL (eP4 PyData.int PyData.int PyData.int PyData.int)) v_3)), some (oS ((eL PyData.int) v_6)), u_13, u_14, some (sS ((eL PyData.int) v_31)), some (sS ((eD PyData.int PyData.int) s_3)), some (sS (PyData.int e3)), u_11, some (sS (PyData.int v_37.1)), some (oS ((eD PyData.int PyData.int) st3)), none, none, none, none, none, none, none, none, none]) rfl ?_)
  unfold p_law_7
  unfold m_law_3 at h
  obtain ⟨v_39, h_v_39, h⟩ := Mir.bindS h
  obtain ⟨v_40, h_v_40, h⟩ := Mir.bindS h
  refine Ok.setD_I (fb := PyData.int) (ρ' := [some (rS ((eL PyData.int) a_script)), some (rS (eS v_37.2)), some (sS (PyData.int m_1)), some (sS ((eL (eP4 PyData.int PyData.int PyData.int PyData.int)) v_3)), some (oS ((eL PyData.int) v_6)), u_13, u_14, some (sS ((eL PyData.int) v_31)), some (sS ((eD PyData.int PyData.int) s_3)), some (sS (PyData.int e3)), u_11, some (sS (PyData.int v_37.1)), some (oS ((eD PyData.int PyData.int) v_40)), none, none, none, none, none, none, none, none, none]) h_v_40 xI rfl (bMul h_v_39 (xV rfl) (xV rfl)) rfl rfl ?_
  have h := Option.some.inj h; subst h
  exact Ok.nil ⟨_, _, _, _, fr_s, hF_u_13, rfl⟩
abbrev R_law_4 (a_script : List Int) (v_37 : Int × Src) (m_1 : Int) (v_3 : List (Int × Int × Int × Int)) (v_6 : List Int) (v_31 : List Int) (s_3 : (List (Int × Int))) (s_4 : (List (Int × Int))) (st4 : (List (Int × Int))) (ρ : En) : Prop := ∃ u_20 u_17 u_18 u_16 u_19 : Option Sl, ∃ f_1 : Fl, Fr u_17 ∧ Fr u_16 ∧ keep? f_1 = true ∧ ρ = [some (rS ((eL PyData.int) a_script)), some (rS (eS v_37.2)), some (sS (PyData.int m_1)), some (sS ((eL (eP4 PyData.int PyData.int PyData.int PyData.int)) v_3)), some (oS ((eL PyData.int) v_6)), u_17, u_18, some (sS ((eL PyData.int) v_31)), some (sS ((eD PyData.int PyData.int) s_3)), u_16, u_19, some (sS (PyData.int v_37.1)), some (Prod.mk f_1 ((eD PyData.int PyData.int) s_4)), some (oS ((eD PyData.int PyData.int) st4)), u_20, none, none, none, none, none, none, none]
theorem s_law_4 (k : Nat) (a_script : List Int) (v_37 : Int × Src) (m_1 : Int) (v_3 : List (Int × Int × Int × Int)) (v_6 : List Int) (v_31 : List Int) (s_3 : (List (Int × Int))) (s_4 : (List (Int × Int))) (st4 : (List (Int × Int))) (e4 : Int) (o2 : ((List (Int × Int)))) (ρ : En) (hR : R_law_4 a_script v_37 m_1 v_3 v_6 v_31 s_3 s_4 st4 ρ) (h : m_law_4 a_script v_37 m_1 v_3 v_6 v_31 s_3 s_4 st4 e4 = some o2) : ∃ ρ', turnF (cl (k + 5)) 100000 (.nm 14) p_law_8 ρ (PyData.int e4) = some (.nx ρ') ∧ R_law_4 a_script v_37 m_1 v_3 v_6 v_31 s_3 s_4 o2 ρ' := by
  obtain ⟨u_20, u_17, u_18, u_16, u_19, f_1, hF_u_17, hF_u_16, hK_f_1, rfl⟩ := hR
  refine nx_of (turn_ok' (ρ1 := [some (rS ((eL PyData.int) a_script)), some (rS (eS v_37.2)), some (sS (PyData.int m_1)), some (sS ((eL (eP4 PyData.int PyData.int PyData.int PyData.int)) v_3)), some (oS ((eL PyData.int) v_6)), u_17, u_18, some (sS ((eL PyData.int) v_31)), some (sS ((eD PyData.int PyData.int) s_3)), u_16, u_19, some (sS (PyData.int v_37.1)), some (Prod.mk f_1 ((eD PyData.int PyData.int) s_4)), some (oS ((eD PyData.int PyData.int) st4)), some (sS (PyData.int e4)), none, none, none, none, none, none, none]) rfl ?_)
  unfold p_law_8
  unfold m_law_4 at h
  obtain ⟨v_42, h_v_42, h⟩ := Mir.bindS h
  obtain ⟨v_43, h_v_43, h⟩ := Mir.bindS h
  refine Ok.setD_I (fb := PyData.int) (ρ' := [some (rS ((eL PyData.int) a_script)), some (rS (eS v_37.2)), some (sS (PyData.int m_1)), some (sS ((eL (eP4 PyData.int PyData.int PyData.int PyData.int)) v_3)), some (oS ((eL PyData.int) v_6)), u_17, u_18, some (sS ((eL PyData.int) v_31)), some (sS ((eD PyData.int PyData.int) s_3)), u_16, u_19, some (sS (PyData.int v_37.1)), some (sS ((eD PyData.int PyData.int) s_4)), some (oS ((eD PyData.int PyData.int) v_43)), some (sS (PyData.int e4)), none, none, none, none, none, none, none]) h_v_43 (ev_call_ (q := (sS (PyData.int v_42), [PyData.int e4, (eD PyData.int PyData.int) s_4])) (D := [.inl (PyData.int e4), .inl ((eD PyData.int PyData.int) s_4)]) (L := []) (aCons (fun _ h => by cases h) (xSh rfl) (aCons (fun _ h => by cases h) (xShA hK_f_1 rfl rfl) aNil)) rfl (w__law_pairs (k + 4) e4 s_4 v_42 h_v_42) rfl rfl) rfl (xSh rfl) rfl rfl ?_
  have h := Option.some.inj h; subst h
  exact Ok.nil ⟨_, _, _, _, _, _, hF_u_17, hF_u_16, rfl, rfl⟩
theorem w_law (k : Nat) (a_script : List Int) (r : Bool) (h : m_law a_script = some r) : cl (k + 6) "law" [rS ((eL PyData.int) a_script)] = some (sS (PyData.bool r), [(eL PyData.int) a_script]) := by
  show runDef (cl (k + 5)) 100000 1 22 d_law.body [rS ((eL PyData.int) a_script)] = _
  refine run_ok rfl rfl ?_
  show Ok (cl (k + 5)) 100000 d_law.body [some (rS ((eL PyData.int) a_script)), none, none, none, none, none, none, none, none, none, none, none, none, none, none, none, none, none, none, none, none, none] _
  unfold m_law at h
  unfold d_law
  obtain ⟨v_1, h_v_1, h⟩ := Mir.bindS h
  refine Ok.asg (ρ' := [some (rS ((eL PyData.int) a_script)), some (rS (eS v_1)), none, none, none, none, none, none, none, none, none, none, none, none, none, none, none, none, none, none, none, none]) (ev_call_ (q := (rS (eS v_1), [(eL PyData.int) a_script])) (D := [.inr 0]) (L := [0]) (aIo rfl aNil) rfl (w__law_source (k + 4) a_script v_1 h_v_1) rfl rfl) rfl ?_
  obtain ⟨v_2, h_v_2, h⟩ := Mir.bindS h
  obtain ⟨m_1, h_m_1, h⟩ := Mir.bindS h
  have e_m_1 := Option.some.inj h_m_1
  refine Ok.asg (ρ' := [some (rS ((eL PyData.int) a_script)), some (rS (eS v_2.2)), some (sS (PyData.int m_1)), none, none, none, none, none, none, none, none, none, none, none, none, none, none, none, none, none, none, none]) (bAdd xI (bMulK (mul_small' (by decide)) xI (ev_call_ (q := (sS (PyData.int v_2.1), [eS v_2.2, PyData.int (14 : Int)])) (D := [.inr 1, .inl (PyData.int (14 : Int))]) (L := [1]) (aIo rfl (aCons (fun _ h => by cases h) xI aNil)) rfl (w__law_pick (k + 4) v_1 (14 : Int) v_2.1 v_2.2 h_v_2) rfl rfl))) (by subst e_m_1; rfl) ?_
  obtain ⟨v_3, h_v_3, h⟩ := Mir.bindS h
  refine Ok.asg (ρ' := [some (rS ((eL PyData.int) a_script)), some (rS (eS v_2.2)), some (sS (PyData.int m_1)), some (oS ((eL (eP4 PyData.int PyData.int PyData.int PyData.int)) v_3)), none, none, none, none, none, none, none, none, none, none, none, none, none, none, none, none, none, none]) (ev_call_ (q := (oS ((eL (eP4 PyData.int PyData.int PyData.int PyData.int)) v_3), [PyData.int m_1])) (D := [.inl (PyData.int m_1)]) (L := []) (aCons (fun _ h => by cases h) (xSh rfl) aNil) rfl (w__law_quadruples (k + 4) m_1 v_3 h_v_3) rfl rfl) rfl ?_
  obtain ⟨v_4, h_v_4, h⟩ := Mir.bindS h
  obtain ⟨v_6, h_v_6, h⟩ := Mir.bindS h
  refine Ok.asg (ρ' := [some (rS ((eL PyData.int) a_script)), some (rS (eS v_2.2)), some (sS (PyData.int m_1)), some (oS ((eL (eP4 PyData.int PyData.int PyData.int PyData.int)) v_3)), some (oS ((eL PyData.int) v_6)), none, none, none, none, none, none, none, none, none, none, none, none, none, none, none, none, none]) (compIf_ (fa := PyData.int) (fb := PyData.int) h_v_6 (iR2 h_v_4 xI (bAdd (xV rfl) xI)) (ownFree1 fr_n) (fun x_1 b h => (by obtain ⟨v_5, h_v_5, h⟩ := Mir.bindS h; have h := Option.some.inj h; subst h; exact ⟨[some (rS ((eL PyData.int) a_script)), some (rS (eS v_2.2)), some (sS (PyData.int m_1)), some (oS ((eL (eP4 PyData.int PyData.int PyData.int PyData.int)) v_3)), none, none, none, none, none, none, none, none, none, none, none, none, none, none, none, some (sS (PyData.int x_1)), none, none], rfl, (by unfold p_law_0; exact (tB (cEqI (bMod h_v_5 (b1I (xV rfl)) (xV rfl)) xI))), rfl, fun _ y h => (by have h := Option.some.inj h; subst h; exact ⟨[some (rS ((eL PyData.int) a_script)), some (rS (eS v_2.2)), some (sS (PyData.int m_1)), some (oS ((eL (eP4 PyData.int PyData.int PyData.int PyData.int)) v_3)), none, none, none, none, none, none, none, none, none, none, none, none, none, none, none, some (sS (PyData.int x_1)), none, none], .sh, (by unfold p_law_1; exact (xSh rfl)), rfl, rfl⟩)⟩)) rfl) rfl ?_
  obtain ⟨v_7, h_v_7, h⟩ := Mir.bindS h
  obtain ⟨v_8, h_v_8, h⟩ := Mir.bindS h
  obtain ⟨v_9, h_v_9, h⟩ := Mir.bindS h
  obtain ⟨v_13, h_v_13, h⟩ := Mir.bindS h
  by_cases hc : v_13 = true
  · rw [if_pos hc] at h
    refine Ok.ifT (by rw [← hc]; exact (tB (oB (cNeS (rpr h_v_8 (ev_call_ (q := (sS ((eT (eP4 PyData.int PyData.int PyData.int PyData.int)) v_7), [PyData.int m_1])) (D := [.inl (PyData.int m_1)]) (L := []) (aCons (fun _ h => by cases h) (xSh rfl) aNil) rfl (w_odd_quadruples (k + 1) m_1 v_7 h_v_7) rfl rfl)) (rpr h_v_9 (b1TL (xVo rfl)))) (fun hc => (by have h := h_v_13; rw [if_neg (by rw [hc]; decide)] at h; obtain ⟨v_10, h_v_10, h⟩ := Mir.bindS h; obtain ⟨v_11, h_v_11, h⟩ := Mir.bindS h; obtain ⟨v_12, h_v_12, h⟩ := Mir.bindS h; have h := Option.some.inj h; subst h; exact (cNeS (rpr h_v_11 (ev_call_ (q := (sS ((eT PyData.int) v_10), [PyData.int m_1])) (D := [.inl (PyData.int m_1)]) (L := []) (aCons (fun _ h => by cases h) (xSh rfl) aNil) rfl (w_divisors_of (k + 3) m_1 v_10 h_v_10) rfl rfl)) (rpr h_v_12 (b1TL (xVo rfl)))))) (fun hc => (by have h := h_v_13; rw [if_pos hc] at h; exact (Option.some.inj h).symm))))) ?_
    have h := Option.some.inj h; subst h
    exact Ok.ret xB rfl (show _ ∧ _ from ⟨rfl, rfl⟩)
  · rw [if_neg hc] at h
    have hc := Bool.eq_false_iff.mpr hc
    refine Ok.ifF (by rw [← hc]; exact (tB (oB (cNeS (rpr h_v_8 (ev_call_ (q := (sS ((eT (eP4 PyData.int PyData.int PyData.int PyData.int)) v_7), [PyData.int m_1])) (D := [.inl (PyData.int m_1)]) (L := []) (aCons (fun _ h => by cases h) (xSh rfl) aNil) rfl (w_odd_quadruples (k + 1) m_1 v_7 h_v_7) rfl rfl)) (rpr h_v_9 (b1TL (xVo rfl)))) (fun hc => (by have h := h_v_13; rw [if_neg (by rw [hc]; decide)] at h; obtain ⟨v_10, h_v_10, h⟩ := Mir.bindS h; obtain ⟨v_11, h_v_11, h⟩ := Mir.bindS h; obtain ⟨v_12, h_v_12, h⟩ := Mir.bindS h; have h := Option.some.inj h; subst h; exact (cNeS (rpr h_v_11 (ev_call_ (q := (sS ((eT PyData.int) v_10), [PyData.int m_1])) (D := [.inl (PyData.int m_1)]) (L := []) (aCons (fun _ h => by cases h) (xSh rfl) aNil) rfl (w_divisors_of (k + 3) m_1 v_10 h_v_10) rfl rfl)) (rpr h_v_12 (b1TL (xVo rfl)))))) (fun hc => (by have h := h_v_13; rw [if_pos hc] at h; exact (Option.some.inj h).symm))))) ?_
    refine Ok.nil ?_
    show Ok _ _ _ [some (rS ((eL PyData.int) a_script)), some (rS (eS v_2.2)), some (sS (PyData.int m_1)), some (oS ((eL (eP4 PyData.int PyData.int PyData.int PyData.int)) v_3)), some (oS ((eL PyData.int) v_6)), none, none, none, none, none, none, none, none, none, none, none, none, none, none, none, none, none] _
    obtain ⟨o_1, h_o_1, h⟩ := Mir.bindS h
    obtain ⟨q_o_1, hl_o_1, hq_o_1⟩ := forR_ok2 (F := turnF (cl (k + 5)) 100000 (.nm 5) p_law_2) (eP4 PyData.int PyData.int PyData.int PyData.int) (m_law_0 a_script v_2 m_1 v_3 v_6) (R_law_0 a_script v_2 m_1 v_3 v_6) (fun t q => Rt (sS (PyData.bool t)) (fun ρ' => outs ρ' 0 [rS ((eL PyData.int) a_script)] = some [(eL PyData.int) a_script]) q) (s_law_0 k a_script v_2 m_1 v_3 v_6) v_3 _ _ _ ⟨none, none, fr_n, rfl⟩ h_o_1
    refine Ok.for_ (iE (d := (eL (eP4 PyData.int PyData.int PyData.int PyData.int)) v_3) rfl (xShO rfl rfl)) hl_o_1 ?_
    cases o_1 with
    | inr t =>
      have h := Option.some.inj h; subst h
      obtain ⟨hT, r_, ρ_, rfl⟩ := hq_o_1
      exact hT
    | inl s_1 =>
      obtain ⟨ρ_s_1, rfl, hR_s_1⟩ := nx_inv hq_o_1
      obtain ⟨u_3, u_4, hF_u_4, rfl⟩ := hR_s_1
      show Ok _ _ _ [some (rS ((eL PyData.int) a_script)), some (rS (eS v_2.2)), some (sS (PyData.int m_1)), some (sS ((eL (eP4 PyData.int PyData.int PyData.int PyData.int)) v_3)), some (oS ((eL PyData.int) v_6)), u_4, u_3, none, none, none, none, none, none, none, none, none, none, none, none, none, none, none] _
      obtain ⟨v_24, h_v_24, h⟩ := Mir.bindS h
      obtain ⟨v_25, h_v_25, h⟩ := Mir.bindS h
      obtain ⟨v_27, h_v_27, h⟩ := Mir.bindS h
      obtain ⟨v_28, h_v_28, h⟩ := Mir.bindS h
      by_cases hc : (!decide (v_25 = v_28)) = true
      · rw [if_pos hc] at h
        refine Ok.ifT (by rw [← hc]; exact (tB (cNeS (rpr h_v_25 (ev_call_ (q := (sS (PyData.int v_24), [PyData.int m_1])) (D := [.inl (PyData.int m_1)]) (L := []) (aCons (fun _ h => by cases h) (xSh rfl) aNil) rfl (w_signs_added (k + 0) m_1 v_24 h_v_24) rfl rfl)) (rpr h_v_28 (sumL (comp_ (fa := (eP4 PyData.int PyData.int PyData.int PyData.int)) (fb := PyData.int) h_v_27 (iE (d := (eL (eP4 PyData.int PyData.int PyData.int PyData.int)) v_3) rfl (xSh rfl)) (ownFree1 hF_u_4) (fun x_2 y h => (by obtain ⟨v_26, h_v_26, h⟩ := Mir.bindS h; have h := Option.some.inj h; subst h; exact ⟨[some (rS ((eL PyData.int) a_script)), some (rS (eS v_2.2)), some (sS (PyData.int m_1)), some (sS ((eL (eP4 PyData.int PyData.int PyData.int PyData.int)) v_3)), some (oS ((eL PyData.int) v_6)), some (sS ((eP4 PyData.int PyData.int PyData.int PyData.int) x_2)), u_3, none, none, none, none, none, none, none, none, none, none, none, none, none, none, none], [some (rS ((eL PyData.int) a_script)), some (rS (eS v_2.2)), some (sS (PyData.int m_1)), some (sS ((eL (eP4 PyData.int PyData.int PyData.int PyData.int)) v_3)), some (oS ((eL PyData.int) v_6)), some (sS ((eP4 PyData.int PyData.int PyData.int PyData.int) x_2)), u_3, none, none, none, none, none, none, none, none, none, none, none, none, none, none, none], .sh, rfl, (by unfold p_law_3; exact (ev_call_ (q := (sS (PyData.int v_26), [(eP4 PyData.int PyData.int PyData.int PyData.int) x_2])) (D := [.inl ((eP4 PyData.int PyData.int PyData.int PyData.int) x_2)]) (L := []) (aCons (fun _ h => by cases h) (xSh rfl) aNil) rfl (w__law_sign (k + 4) x_2 v_26 h_v_26) rfl rfl)), rfl, rfl⟩)) rfl)))))) ?_
        have h := Option.some.inj h; subst h
        exact Ok.ret xB rfl (show _ ∧ _ from ⟨rfl, rfl⟩)
      · rw [if_neg hc] at h
        have hc := Bool.eq_false_iff.mpr hc
        refine Ok.ifF (by rw [← hc]; exact (tB (cNeS (rpr h_v_25 (ev_call_ (q := (sS (PyData.int v_24), [PyData.int m_1])) (D := [.inl (PyData.int m_1)]) (L := []) (aCons (fun _ h => by cases h) (xSh rfl) aNil) rfl (w_signs_added (k + 0) m_1 v_24 h_v_24) rfl rfl)) (rpr h_v_28 (sumL (comp_ (fa := (eP4 PyData.int PyData.int PyData.int PyData.int)) (fb := PyData.int) h_v_27 (iE (d := (eL (eP4 PyData.int PyData.int PyData.int PyData.int)) v_3) rfl (xSh rfl)) (ownFree1 hF_u_4) (fun x_2 y h => (by obtain ⟨v_26, h_v_26, h⟩ := Mir.bindS h; have h := Option.some.inj h; subst h; exact ⟨[some (rS ((eL PyData.int) a_script)), some (rS (eS v_2.2)), some (sS (PyData.int m_1)), some (sS ((eL (eP4 PyData.int PyData.int PyData.int PyData.int)) v_3)), some (oS ((eL PyData.int) v_6)), some (sS ((eP4 PyData.int PyData.int PyData.int PyData.int) x_2)), u_3, none, none, none, none, none, none, none, none, none, none, none, none, none, none, none], [some (rS ((eL PyData.int) a_script)), some (rS (eS v_2.2)), some (sS (PyData.int m_1)), some (sS ((eL (eP4 PyData.int PyData.int PyData.int PyData.int)) v_3)), some (oS ((eL PyData.int) v_6)), some (sS ((eP4 PyData.int PyData.int PyData.int PyData.int) x_2)), u_3, none, none, none, none, none, none, none, none, none, none, none, none, none, none, none], .sh, rfl, (by unfold p_law_3; exact (ev_call_ (q := (sS (PyData.int v_26), [(eP4 PyData.int PyData.int PyData.int PyData.int) x_2])) (D := [.inl ((eP4 PyData.int PyData.int PyData.int PyData.int) x_2)]) (L := []) (aCons (fun _ h => by cases h) (xSh rfl) aNil) rfl (w__law_sign (k + 4) x_2 v_26 h_v_26) rfl rfl)), rfl, rfl⟩)) rfl)))))) ?_
        refine Ok.nil ?_
        show Ok _ _ _ [some (rS ((eL PyData.int) a_script)), some (rS (eS v_2.2)), some (sS (PyData.int m_1)), some (sS ((eL (eP4 PyData.int PyData.int PyData.int PyData.int)) v_3)), some (oS ((eL PyData.int) v_6)), u_4, u_3, none, none, none, none, none, none, none, none, none, none, none, none, none, none, none] _
        obtain ⟨v_29, h_v_29, h⟩ := Mir.bindS h
        obtain ⟨v_31, h_v_31, h⟩ := Mir.bindS h
        refine Ok.par (ρ' := [some (rS ((eL PyData.int) a_script)), some (rS (eS v_2.2)), some (sS (PyData.int m_1)), some (sS ((eL (eP4 PyData.int PyData.int PyData.int PyData.int)) v_3)), some (oS ((eL PyData.int) v_6)), u_4, u_3, some (oS ((eL PyData.int) v_31)), some (oS ((eD PyData.int PyData.int) [])), none, none, none, none, none, none, none, none, none, none, none, none, none]) (evP_cons_ (comp_ (fa := PyData.int) (fb := PyData.int) h_v_31 (iR3 h_v_29 xI (bAdd (bMulK (mul_small' (by decide)) xI (xV rfl)) xI) xI) (ownFree1 fr_n) (fun x_3 y h => (by obtain ⟨v_30, h_v_30, h⟩ := Mir.bindS h; have h := Option.some.inj h; subst h; exact ⟨[some (rS ((eL PyData.int) a_script)), some (rS (eS v_2.2)), some (sS (PyData.int m_1)), some (sS ((eL (eP4 PyData.int PyData.int PyData.int PyData.int)) v_3)), some (oS ((eL PyData.int) v_6)), u_4, u_3, none, none, some (sS (PyData.int x_3)), none, none, none, none, none, none, none, none, none, none, none, none], [some (rS ((eL PyData.int) a_script)), some (rS (eS v_2.2)), some (sS (PyData.int m_1)), some (sS ((eL (eP4 PyData.int PyData.int PyData.int PyData.int)) v_3)), some (oS ((eL PyData.int) v_6)), u_4, u_3, none, none, some (sS (PyData.int x_3)), none, none, none, none, none, none, none, none, none, none, none, none], .sh, rfl, (by unfold p_law_4; exact (bMul h_v_30 (xV rfl) (xV rfl))), rfl, rfl⟩)) rfl) rfl (evP_cons_ dE rfl evP_nil_)) rfl ?_
        obtain ⟨s_3, h_s_3, h⟩ := Mir.bindS h
        obtain ⟨ρ_s_3, hl_s_3, u_11, u_12, u_13, u_14, hF_u_12, hF_u_13, rfl⟩ := for_ok PyData.int (m_law_1 a_script v_2 m_1 v_3 v_6 v_31) (R_law_1 a_script v_2 m_1 v_3 v_6 v_31) (s_law_1 k a_script v_2 m_1 v_3 v_6 v_31) v_31 _ _ _ ⟨none, none, u_4, u_3, fr_n, hF_u_4, rfl⟩ h_s_3
        refine Ok.for_ (iE (d := (eL PyData.int) v_31) rfl (xShO rfl rfl)) hl_s_3 ?_
        show Ok _ _ _ [some (rS ((eL PyData.int) a_script)), some (rS (eS v_2.2)), some (sS (PyData.int m_1)), some (sS ((eL (eP4 PyData.int PyData.int PyData.int PyData.int)) v_3)), some (oS ((eL PyData.int) v_6)), u_13, u_14, some (sS ((eL PyData.int) v_31)), some (oS ((eD PyData.int PyData.int) s_3)), u_12, u_11, none, none, none, none, none, none, none, none, none, none, none] _
        obtain ⟨v_33, h_v_33, h⟩ := Mir.bindS h
        obtain ⟨v_34, h_v_34, h⟩ := Mir.bindS h
        obtain ⟨v_35, h_v_35, h⟩ := Mir.bindS h
        obtain ⟨v_36, h_v_36, h⟩ := Mir.bindS h
        by_cases hc : (!decide (v_34 = v_36)) = true
        · rw [if_pos hc] at h
          refine Ok.ifT (by rw [← hc]; exact (tB (cNeS (rpr h_v_34 (ev_call_ (q := (sS (PyData.int v_33), [PyData.int m_1])) (D := [.inl (PyData.int m_1)]) (L := []) (aCons (fun _ h => by cases h) (xSh rfl) aNil) rfl (w_odd_tuples (k + 2) m_1 v_33 h_v_33) rfl rfl)) (rpr h_v_36 (ev_call_ (q := (sS (PyData.int v_35), [PyData.int ((4 : Int) * m_1), (eD PyData.int PyData.int) s_3])) (D := [.inl (PyData.int ((4 : Int) * m_1)), .inl ((eD PyData.int PyData.int) s_3)]) (L := []) (aCons (fun _ h => by cases h) (bMulK (mul_small' (by decide)) xI (xV rfl)) (aCons (fun _ h => by cases h) (xShO rfl rfl) aNil)) rfl (w__law_pairs (k + 4) ((4 : Int) * m_1) s_3 v_35 h_v_35) rfl rfl))))) ?_
          have h := Option.some.inj h; subst h
          exact Ok.ret xB rfl (show _ ∧ _ from ⟨rfl, rfl⟩)
        · rw [if_neg hc] at h
          have hc := Bool.eq_false_iff.mpr hc
          refine Ok.ifF (by rw [← hc]; exact (tB (cNeS (rpr h_v_34 (ev_call_ (q := (sS (PyData.int v_33), [PyData.int m_1])) (D := [.inl (PyData.int m_1)]) (L := []) (aCons (fun _ h => by cases h) (xSh rfl) aNil) rfl (w_odd_tuples (k + 2) m_1 v_33 h_v_33) rfl rfl)) (rpr h_v_36 (ev_call_ (q := (sS (PyData.int v_35), [PyData.int ((4 : Int) * m_1), (eD PyData.int PyData.int) s_3])) (D := [.inl (PyData.int ((4 : Int) * m_1)), .inl ((eD PyData.int PyData.int) s_3)]) (L := []) (aCons (fun _ h => by cases h) (bMulK (mul_small' (by decide)) xI (xV rfl)) (aCons (fun _ h => by cases h) (xShO rfl rfl) aNil)) rfl (w__law_pairs (k + 4) ((4 : Int) * m_1) s_3 v_35 h_v_35) rfl rfl))))) ?_
          refine Ok.nil ?_
          show Ok _ _ _ [some (rS ((eL PyData.int) a_script)), some (rS (eS v_2.2)), some (sS (PyData.int m_1)), some (sS ((eL (eP4 PyData.int PyData.int PyData.int PyData.int)) v_3)), some (oS ((eL PyData.int) v_6)), u_13, u_14, some (sS ((eL PyData.int) v_31)), some (sS ((eD PyData.int PyData.int) s_3)), u_12, u_11, none, none, none, none, none, none, none, none, none, none, none] _
          obtain ⟨v_37, h_v_37, h⟩ := Mir.bindS h
          refine Ok.asg (ρ' := [some (rS ((eL PyData.int) a_script)), some (rS (eS v_37.2)), some (sS (PyData.int m_1)), some (sS ((eL (eP4 PyData.int PyData.int PyData.int PyData.int)) v_3)), some (oS ((eL PyData.int) v_6)), u_13, u_14, some (sS ((eL PyData.int) v_31)), some (sS ((eD PyData.int PyData.int) s_3)), u_12, u_11, some (sS (PyData.int v_37.1)), none, none, none, none, none, none, none, none, none, none]) (ev_call_ (q := (sS (PyData.int v_37.1), [eS v_37.2, PyData.int (200 : Int)])) (D := [.inr 1, .inl (PyData.int (200 : Int))]) (L := [1]) (aIo rfl (aCons (fun _ h => by cases h) xI aNil)) rfl (w__law_pick (k + 4) v_2.2 (200 : Int) v_37.1 v_37.2 h_v_37) rfl rfl) rfl ?_
          obtain ⟨squares_1, h_squares_1, h⟩ := Mir.bindS h
          have e_squares_1 := Option.some.inj h_squares_1
          refine Ok.asg (ρ' := [some (rS ((eL PyData.int) a_script)), some (rS (eS v_37.2)), some (sS (PyData.int m_1)), some (sS ((eL (eP4 PyData.int PyData.int PyData.int PyData.int)) v_3)), some (oS ((eL PyData.int) v_6)), u_13, u_14, some (sS ((eL PyData.int) v_31)), some (sS ((eD PyData.int PyData.int) s_3)), u_12, u_11, some (sS (PyData.int v_37.1)), some (oS ((eD PyData.int PyData.int) squares_1)), none, none, none, none, none, none, none, none, none]) (dD1_I (fb := PyData.int) (lConsM (fa := PyData.int) xI (lNilM (fa := PyData.int)))) (by subst e_squares_1; rfl) ?_
          obtain ⟨v_38, h_v_38, h⟩ := Mir.bindS h
          obtain ⟨s_4, h_s_4, h⟩ := Mir.bindS h
          obtain ⟨ρ_s_4, hl_s_4, u_16, u_17, u_18, u_19, hF_u_16, hF_u_17, rfl⟩ := for_ok PyData.int (m_law_3 a_script v_37 m_1 v_3 v_6 v_31 s_3) (R_law_3 a_script v_37 m_1 v_3 v_6 v_31 s_3) (s_law_3 k a_script v_37 m_1 v_3 v_6 v_31 s_3) v_38 _ _ _ ⟨u_12, u_13, u_14, u_11, hF_u_12, hF_u_13, rfl⟩ h_s_4
          refine Ok.for_ (iR2 h_v_38 xI xI) hl_s_4 ?_
          show Ok _ _ _ [some (rS ((eL PyData.int) a_script)), some (rS (eS v_37.2)), some (sS (PyData.int m_1)), some (sS ((eL (eP4 PyData.int PyData.int PyData.int PyData.int)) v_3)), some (oS ((eL PyData.int) v_6)), u_17, u_18, some (sS ((eL PyData.int) v_31)), some (sS ((eD PyData.int PyData.int) s_3)), u_16, u_19, some (sS (PyData.int v_37.1)), some (oS ((eD PyData.int PyData.int) s_4)), none, none, none, none, none, none, none, none, none] _
          refine Ok.asg (ρ' := [some (rS ((eL PyData.int) a_script)), some (rS (eS v_37.2)), some (sS (PyData.int m_1)), some (sS ((eL (eP4 PyData.int PyData.int PyData.int PyData.int)) v_3)), some (oS ((eL PyData.int) v_6)), u_17, u_18, some (sS ((eL PyData.int) v_31)), some (sS ((eD PyData.int PyData.int) s_3)), u_16, u_19, some (sS (PyData.int v_37.1)), some (oS ((eD PyData.int PyData.int) s_4)), some (oS ((eD PyData.int PyData.int) [])), none, none, none, none, none, none, none, none]) dE rfl ?_
          obtain ⟨v_41, h_v_41, h⟩ := Mir.bindS h
          obtain ⟨s_5, h_s_5, h⟩ := Mir.bindS h
          obtain ⟨ρ_s_5, hl_s_5, u_21, u_22, u_23, u_24, u_25, f_2, hF_u_22, hF_u_24, hK_f_2, rfl⟩ := for_ok PyData.int (m_law_4 a_script v_37 m_1 v_3 v_6 v_31 s_3 s_4) (R_law_4 a_script v_37 m_1 v_3 v_6 v_31 s_3 s_4) (s_law_4 k a_script v_37 m_1 v_3 v_6 v_31 s_3 s_4) v_41 _ _ _ ⟨none, u_17, u_18, u_16, u_19, .own, hF_u_17, hF_u_16, rfl, rfl⟩ h_s_5
          refine Ok.for_ (iR1 h_v_41 (bAdd (xV rfl) xI)) hl_s_5 ?_
          show Ok _ _ _ [some (rS ((eL PyData.int) a_script)), some (rS (eS v_37.2)), some (sS (PyData.int m_1)), some (sS ((eL (eP4 PyData.int PyData.int PyData.int PyData.int)) v_3)), some (oS ((eL PyData.int) v_6)), u_22, u_23, some (sS ((eL PyData.int) v_31)), some (sS ((eD PyData.int PyData.int) s_3)), u_24, u_25, some (sS (PyData.int v_37.1)), some (Prod.mk f_2 ((eD PyData.int PyData.int) s_4)), some (oS ((eD PyData.int PyData.int) s_5)), u_21, none, none, none, none, none, none, none] _
          obtain ⟨v_44, h_v_44, h⟩ := Mir.bindS h
          obtain ⟨v_45, h_v_45, h⟩ := Mir.bindS h
          obtain ⟨v_46, h_v_46, h⟩ := Mir.bindS h
          obtain ⟨v_47, h_v_47, h⟩ := Mir.bindS h
          obtain ⟨v_48, h_v_48, h⟩ := Mir.bindS h
          obtain ⟨v_49, h_v_49, h⟩ := Mir.bindS h
          by_cases hc : (!decide (v_46 = v_49)) = true
          · rw [if_pos hc] at h
            refine Ok.ifT (by rw [← hc]; exact (tB (cNeS (rpr h_v_46 (dL (lConsM (fa := PyData.int) (ev_call_ (q := (sS (PyData.int v_44), [PyData.int v_37.1])) (D := [.inl (PyData.int v_37.1)]) (L := []) (aCons (fun _ h => by cases h) (xSh rfl) aNil) rfl (w_count_two_squares (k + 1) v_37.1 v_44 h_v_44) rfl rfl) (lConsM (fa := PyData.int) (ev_call_ (q := (sS (PyData.int v_45), [PyData.int v_37.1])) (D := [.inl (PyData.int v_37.1)]) (L := []) (aCons (fun _ h => by cases h) (xSh rfl) aNil) rfl (w_count_four_squares (k + 2) v_37.1 v_45 h_v_45) rfl rfl) (lNilM (fa := PyData.int)))) (Nat.le_of_ble_eq_true rfl))) (rpr h_v_49 (dL (lConsM (fa := PyData.int) (ixD_I (fb := PyData.int) h_v_47 (xVo rfl) (xV rfl)) (lConsM (fa := PyData.int) (ev_call_ (q := (sS (PyData.int v_48), [PyData.int v_37.1, (eD PyData.int PyData.int) s_5])) (D := [.inl (PyData.int v_37.1), .inl ((eD PyData.int PyData.int) s_5)]) (L := []) (aCons (fun _ h => by cases h) (xSh rfl) (aCons (fun _ h => by cases h) (xShO rfl rfl) aNil)) rfl (w__law_pairs (k + 4) v_37.1 s_5 v_48 h_v_48) rfl rfl) (lNilM (fa := PyData.int)))) (Nat.le_of_ble_eq_true rfl)))))) ?_
            have h := Option.some.inj h; subst h
            exact Ok.ret xB rfl (show _ ∧ _ from ⟨rfl, rfl⟩)
          · rw [if_neg hc] at h
            have hc := Bool.eq_false_iff.mpr hc
            refine Ok.ifF (by rw [← hc]; exact (tB (cNeS (rpr h_v_46 (dL (lConsM (fa := PyData.int) (ev_call_ (q := (sS (PyData.int v_44), [PyData.int v_37.1])) (D := [.inl (PyData.int v_37.1)]) (L := []) (aCons (fun _ h => by cases h) (xSh rfl) aNil) rfl (w_count_two_squares (k + 1) v_37.1 v_44 h_v_44) rfl rfl) (lConsM (fa := PyData.int) (ev_call_ (q := (sS (PyData.int v_45), [PyData.int v_37.1])) (D := [.inl (PyData.int v_37.1)]) (L := []) (aCons (fun _ h => by cases h) (xSh rfl) aNil) rfl (w_count_four_squares (k + 2) v_37.1 v_45 h_v_45) rfl rfl) (lNilM (fa := PyData.int)))) (Nat.le_of_ble_eq_true rfl))) (rpr h_v_49 (dL (lConsM (fa := PyData.int) (ixD_I (fb := PyData.int) h_v_47 (xVo rfl) (xV rfl)) (lConsM (fa := PyData.int) (ev_call_ (q := (sS (PyData.int v_48), [PyData.int v_37.1, (eD PyData.int PyData.int) s_5])) (D := [.inl (PyData.int v_37.1), .inl ((eD PyData.int PyData.int) s_5)]) (L := []) (aCons (fun _ h => by cases h) (xSh rfl) (aCons (fun _ h => by cases h) (xShO rfl rfl) aNil)) rfl (w__law_pairs (k + 4) v_37.1 s_5 v_48 h_v_48) rfl rfl) (lNilM (fa := PyData.int)))) (Nat.le_of_ble_eq_true rfl)))))) ?_
            refine Ok.nil ?_
            show Ok _ _ _ [some (rS ((eL PyData.int) a_script)), some (rS (eS v_37.2)), some (sS (PyData.int m_1)), some (sS ((eL (eP4 PyData.int PyData.int PyData.int PyData.int)) v_3)), some (oS ((eL PyData.int) v_6)), u_22, u_23, some (sS ((eL PyData.int) v_31)), some (sS ((eD PyData.int PyData.int) s_3)), u_24, u_25, some (sS (PyData.int v_37.1)), some (Prod.mk f_2 ((eD PyData.int PyData.int) s_4)), some (sS ((eD PyData.int PyData.int) s_5)), u_21, none, none, none, none, none, none, none] _
            obtain ⟨v_54, h_v_54, h⟩ := Mir.bindS h
            by_cases hc : v_54 = true
            · rw [if_pos hc] at h
              refine Ok.ifT (by rw [← hc]; exact (tB (aB (cGt (xV rfl) xI) (fun hc => (by have h := h_v_54; rw [if_pos hc] at h; obtain ⟨v_50, h_v_50, h⟩ := Mir.bindS h; obtain ⟨v_51, h_v_51, h⟩ := Mir.bindS h; obtain ⟨v_52, h_v_52, h⟩ := Mir.bindS h; obtain ⟨v_53, h_v_53, h⟩ := Mir.bindS h; have h := Option.some.inj h; subst h; exact (cNeS (rpr h_v_51 (ev_call_ (q := (sS (PyData.bool v_50), [PyData.int v_37.1])) (D := [.inl (PyData.int v_37.1)]) (L := []) (aCons (fun _ h => by cases h) (xSh rfl) aNil) rfl (w_has_two_squares (k + 1) v_37.1 v_50 h_v_50) rfl rfl)) (rpr h_v_53 (cGt (ixD_I (fb := PyData.int) h_v_52 (xV rfl) (xV rfl)) xI))))) (fun hc => (by have h := h_v_54; rw [if_neg (by rw [hc]; decide)] at h; exact (Option.some.inj h).symm))))) ?_
              have h := Option.some.inj h; subst h
              exact Ok.ret xB rfl (show _ ∧ _ from ⟨rfl, rfl⟩)
            · rw [if_neg hc] at h
              have hc := Bool.eq_false_iff.mpr hc
              refine Ok.ifF (by rw [← hc]; exact (tB (aB (cGt (xV rfl) xI) (fun hc => (by have h := h_v_54; rw [if_pos hc] at h; obtain ⟨v_50, h_v_50, h⟩ := Mir.bindS h; obtain ⟨v_51, h_v_51, h⟩ := Mir.bindS h; obtain ⟨v_52, h_v_52, h⟩ := Mir.bindS h; obtain ⟨v_53, h_v_53, h⟩ := Mir.bindS h; have h := Option.some.inj h; subst h; exact (cNeS (rpr h_v_51 (ev_call_ (q := (sS (PyData.bool v_50), [PyData.int v_37.1])) (D := [.inl (PyData.int v_37.1)]) (L := []) (aCons (fun _ h => by cases h) (xSh rfl) aNil) rfl (w_has_two_squares (k + 1) v_37.1 v_50 h_v_50) rfl rfl)) (rpr h_v_53 (cGt (ixD_I (fb := PyData.int) h_v_52 (xV rfl) (xV rfl)) xI))))) (fun hc => (by have h := h_v_54; rw [if_neg (by rw [hc]; decide)] at h; exact (Option.some.inj h).symm))))) ?_
              refine Ok.nil ?_
              show Ok _ _ _ [some (rS ((eL PyData.int) a_script)), some (rS (eS v_37.2)), some (sS (PyData.int m_1)), some (sS ((eL (eP4 PyData.int PyData.int PyData.int PyData.int)) v_3)), some (oS ((eL PyData.int) v_6)), u_22, u_23, some (sS ((eL PyData.int) v_31)), some (sS ((eD PyData.int PyData.int) s_3)), u_24, u_25, some (sS (PyData.int v_37.1)), some (Prod.mk f_2 ((eD PyData.int PyData.int) s_4)), some (sS ((eD PyData.int PyData.int) s_5)), u_21, none, none, none, none, none, none, none] _
              obtain ⟨v_61, h_v_61, h⟩ := Mir.bindS h
              by_cases hc : v_61 = true
              · rw [if_pos hc] at h
                refine Ok.ifT (by rw [← hc]; exact (tB (aB (cGt (xV rfl) xI) (fun hc => (by have h := h_v_61; rw [if_pos hc] at h; obtain ⟨v_55, h_v_55, h⟩ := Mir.bindS h; obtain ⟨v_56, h_v_56, h⟩ := Mir.bindS h; obtain ⟨v_57, h_v_57, h⟩ := Mir.bindS h; obtain ⟨v_59, h_v_59, h⟩ := Mir.bindS h; obtain ⟨v_60, h_v_60, h⟩ := Mir.bindS h; have h := Option.some.inj h; subst h; exact (cNeS (rpr h_v_56 (ev_call_ (q := (sS ((eT PyData.int) v_55), [PyData.int v_37.1])) (D := [.inl (PyData.int v_37.1)]) (L := []) (aCons (fun _ h => by cases h) (xSh rfl) aNil) rfl (w_divisors_of (k + 3) v_37.1 v_55 h_v_55) rfl rfl)) (rpr h_v_60 (b1TL (compIf_ (fa := PyData.int) (fb := PyData.int) h_v_59 (iR2 h_v_57 xI (bAdd (xV rfl) xI)) (ownFree1 fr_n) (fun x_4 b h => (by obtain ⟨v_58, h_v_58, h⟩ := Mir.bindS h; have h := Option.some.inj h; subst h; exact ⟨[some (rS ((eL PyData.int) a_script)), some (rS (eS v_37.2)), some (sS (PyData.int m_1)), some (sS ((eL (eP4 PyData.int PyData.int PyData.int PyData.int)) v_3)), some (oS ((eL PyData.int) v_6)), u_22, u_23, some (sS ((eL PyData.int) v_31)), some (sS ((eD PyData.int PyData.int) s_3)), u_24, u_25, some (sS (PyData.int v_37.1)), some (Prod.mk f_2 ((eD PyData.int PyData.int) s_4)), some (sS ((eD PyData.int PyData.int) s_5)), u_21, none, none, none, none, some (sS (PyData.int x_4)), none, none], rfl, (by unfold p_law_9; exact (tB (cEqI (bMod h_v_58 (b1I (xV rfl)) (xV rfl)) xI))), rfl, fun _ y h => (by have h := Option.some.inj h; subst h; exact ⟨[some (rS ((eL PyData.int) a_script)), some (rS (eS v_37.2)), some (sS (PyData.int m_1)), some (sS ((eL (eP4 PyData.int PyData.int PyData.int PyData.int)) v_3)), some (oS ((eL PyData.int) v_6)), u_22, u_23, some (sS ((eL PyData.int) v_31)), some (sS ((eD PyData.int PyData.int) s_3)), u_24, u_25, some (sS (PyData.int v_37.1)), some (Prod.mk f_2 ((eD PyData.int PyData.int) s_4)), some (sS ((eD PyData.int PyData.int) s_5)), u_21, none, none, none, none, some (sS (PyData.int x_4)), none, none], .sh, (by unfold p_law_10; exact (xSh rfl)), rfl, rfl⟩)⟩)) rfl)))))) (fun hc => (by have h := h_v_61; rw [if_neg (by rw [hc]; decide)] at h; exact (Option.some.inj h).symm))))) ?_
                have h := Option.some.inj h; subst h
                exact Ok.ret xB rfl (show _ ∧ _ from ⟨rfl, rfl⟩)
              · rw [if_neg hc] at h
                have hc := Bool.eq_false_iff.mpr hc
                refine Ok.ifF (by rw [← hc]; exact (tB (aB (cGt (xV rfl) xI) (fun hc => (by have h := h_v_61; rw [if_pos hc] at h; obtain ⟨v_55, h_v_55, h⟩ := Mir.bindS h; obtain ⟨v_56, h_v_56, h⟩ := Mir.bindS h; obtain ⟨v_57, h_v_57, h⟩ := Mir.bindS h; obtain ⟨v_59, h_v_59, h⟩ := Mir.bindS h; obtain ⟨v_60, h_v_60, h⟩ := Mir.bindS h; have h := Option.some.inj h; subst h; exact (cNeS (rpr h_v_56 (ev_call_ (q := (sS ((eT PyData.int) v_55), [PyData.int v_37.1])) (D := [.inl (PyData.int v_37.1)]) (L := []) (aCons (fun _ h => by cases h) (xSh rfl) aNil) rfl (w_divisors_of (k + 3) v_37.1 v_55 h_v_55) rfl rfl)) (rpr h_v_60 (b1TL (compIf_ (fa := PyData.int) (fb := PyData.int) h_v_59 (iR2 h_v_57 xI (bAdd (xV rfl) xI)) (ownFree1 fr_n) (fun x_4 b h => (by obtain ⟨v_58, h_v_58, h⟩ := Mir.bindS h; have h := Option.some.inj h; subst h; exact ⟨[some (rS ((eL PyData.int) a_script)), some (rS (eS v_37.2)), some (sS (PyData.int m_1)), some (sS ((eL (eP4 PyData.int PyData.int PyData.int PyData.int)) v_3)), some (oS ((eL PyData.int) v_6)), u_22, u_23, some (sS ((eL PyData.int) v_31)), some (sS ((eD PyData.int PyData.int) s_3)), u_24, u_25, some (sS (PyData.int v_37.1)), some (Prod.mk f_2 ((eD PyData.int PyData.int) s_4)), some (sS ((eD PyData.int PyData.int) s_5)), u_21, none, none, none, none, some (sS (PyData.int x_4)), none, none], rfl, (by unfold p_law_9; exact (tB (cEqI (bMod h_v_58 (b1I (xV rfl)) (xV rfl)) xI))), rfl, fun _ y h => (by have h := Option.some.inj h; subst h; exact ⟨[some (rS ((eL PyData.int) a_script)), some (rS (eS v_37.2)), some (sS (PyData.int m_1)), some (sS ((eL (eP4 PyData.int PyData.int PyData.int PyData.int)) v_3)), some (oS ((eL PyData.int) v_6)), u_22, u_23, some (sS ((eL PyData.int) v_31)), some (sS ((eD PyData.int PyData.int) s_3)), u_24, u_25, some (sS (PyData.int v_37.1)), some (Prod.mk f_2 ((eD PyData.int PyData.int) s_4)), some (sS ((eD PyData.int PyData.int) s_5)), u_21, none, none, none, none, some (sS (PyData.int x_4)), none, none], .sh, (by unfold p_law_10; exact (xSh rfl)), rfl, rfl⟩)⟩)) rfl)))))) (fun hc => (by have h := h_v_61; rw [if_neg (by rw [hc]; decide)] at h; exact (Option.some.inj h).symm))))) ?_
                refine Ok.nil ?_
                show Ok _ _ _ [some (rS ((eL PyData.int) a_script)), some (rS (eS v_37.2)), some (sS (PyData.int m_1)), some (sS ((eL (eP4 PyData.int PyData.int PyData.int PyData.int)) v_3)), some (oS ((eL PyData.int) v_6)), u_22, u_23, some (sS ((eL PyData.int) v_31)), some (sS ((eD PyData.int PyData.int) s_3)), u_24, u_25, some (sS (PyData.int v_37.1)), some (Prod.mk f_2 ((eD PyData.int PyData.int) s_4)), some (sS ((eD PyData.int PyData.int) s_5)), u_21, none, none, none, none, none, none, none] _
                obtain ⟨v_62, h_v_62, h⟩ := Mir.bindS h
                obtain ⟨v_64, h_v_64, h⟩ := Mir.bindS h
                obtain ⟨v_65, h_v_65, h⟩ := Mir.bindS h
                refine Ok.asg (ρ' := [some (rS ((eL PyData.int) a_script)), some (rS (eS v_64.2)), some (sS (PyData.int m_1)), some (sS ((eL (eP4 PyData.int PyData.int PyData.int PyData.int)) v_3)), some (oS ((eL PyData.int) v_6)), some (sS ((eP4 PyData.int PyData.int PyData.int PyData.int) v_65)), u_23, some (sS ((eL PyData.int) v_31)), some (sS ((eD PyData.int PyData.int) s_3)), u_24, u_25, some (sS (PyData.int v_37.1)), some (Prod.mk f_2 ((eD PyData.int PyData.int) s_4)), some (sS ((eD PyData.int PyData.int) s_5)), u_21, none, none, none, none, none, none, none]) (toP4_ h_v_65 (b1TL (compS_ (fa := PyData.int) (fb := PyData.int) (ρ0 := fun z_1 => [some (rS ((eL PyData.int) a_script)), some (rS (eS z_1)), some (sS (PyData.int m_1)), some (sS ((eL (eP4 PyData.int PyData.int PyData.int PyData.int)) v_3)), some (oS ((eL PyData.int) v_6)), u_22, u_23, some (sS ((eL PyData.int) v_31)), some (sS ((eD PyData.int PyData.int) s_3)), u_24, u_25, some (sS (PyData.int v_37.1)), some (Prod.mk f_2 ((eD PyData.int PyData.int) s_4)), some (sS ((eD PyData.int PyData.int) s_5)), u_21, none, none, none, none, none, none, none]) (h := h_v_64) (iR1 h_v_62 xI) (ownFree1 fr_n) rfl (fun z_1 x_6 y z2 h => (by obtain ⟨v_63, h_v_63, h⟩ := Mir.bindS h; have h := Prod.mk.inj (Option.some.inj h); obtain ⟨h1, h2⟩ := h; subst h1; subst h2; exact ⟨[some (rS ((eL PyData.int) a_script)), some (rS (eS z_1)), some (sS (PyData.int m_1)), some (sS ((eL (eP4 PyData.int PyData.int PyData.int PyData.int)) v_3)), some (oS ((eL PyData.int) v_6)), u_22, u_23, some (sS ((eL PyData.int) v_31)), some (sS ((eD PyData.int PyData.int) s_3)), u_24, u_25, some (sS (PyData.int v_37.1)), some (Prod.mk f_2 ((eD PyData.int PyData.int) s_4)), some (sS ((eD PyData.int PyData.int) s_5)), u_21, none, none, none, none, none, some (sS (PyData.int x_6)), none], [some (rS ((eL PyData.int) a_script)), some (rS (eS v_63.2)), some (sS (PyData.int m_1)), some (sS ((eL (eP4 PyData.int PyData.int PyData.int PyData.int)) v_3)), some (oS ((eL PyData.int) v_6)), u_22, u_23, some (sS ((eL PyData.int) v_31)), some (sS ((eD PyData.int PyData.int) s_3)), u_24, u_25, some (sS (PyData.int v_37.1)), some (Prod.mk f_2 ((eD PyData.int PyData.int) s_4)), some (sS ((eD PyData.int PyData.int) s_5)), u_21, none, none, none, none, none, some (sS (PyData.int x_6)), none], .sh, rfl, (by unfold p_law_11; exact (bSub (ev_call_ (q := (sS (PyData.int v_63.1), [eS v_63.2, PyData.int (200 : Int)])) (D := [.inr 1, .inl (PyData.int (200 : Int))]) (L := [1]) (aIo rfl (aCons (fun _ h => by cases h) xI aNil)) rfl (w__law_pick (k + 4) z_1 (200 : Int) v_63.1 v_63.2 h_v_63) rfl rfl) xI)), rfl, rfl⟩)) rfl))) rfl ?_
                refine Ok.asg (ρ' := [some (rS ((eL PyData.int) a_script)), some (rS (eS v_64.2)), some (sS (PyData.int m_1)), some (sS ((eL (eP4 PyData.int PyData.int PyData.int PyData.int)) v_3)), some (oS ((eL PyData.int) v_6)), some (sS ((eP4 PyData.int PyData.int PyData.int PyData.int) v_65)), u_23, some (sS ((eL PyData.int) v_31)), some (sS ((eD PyData.int PyData.int) s_3)), some (sS (PyData.int v_65.1)), some (sS (PyData.int v_65.2.1)), some (sS (PyData.int v_37.1)), some (Prod.mk f_2 ((eD PyData.int PyData.int) s_4)), some (sS ((eD PyData.int PyData.int) s_5)), u_21, some (sS (PyData.int v_65.2.2.1)), some (sS (PyData.int v_65.2.2.2)), none, none, none, none, none]) (xSh rfl) rfl ?_
                obtain ⟨v_66, h_v_66, h⟩ := Mir.bindS h
                obtain ⟨v_67, h_v_67, h⟩ := Mir.bindS h
                obtain ⟨v_68, h_v_68, h⟩ := Mir.bindS h
                obtain ⟨v_71, h_v_71, h⟩ := Mir.bindS h
                by_cases hc : v_71 = true
                · rw [if_pos hc] at h
                  refine Ok.ifT (by rw [← hc]; exact (tB (oB (cNeS (rpr h_v_67 (ev_call_ (q := (sS ((eP4 PyData.int PyData.int PyData.int PyData.int) v_66), [(eP4 PyData.int PyData.int PyData.int PyData.int) v_65])) (D := [.inl ((eP4 PyData.int PyData.int PyData.int PyData.int) v_65)]) (L := []) (aCons (fun _ h => by cases h) (xSh rfl) aNil) rfl (w_doubled (k + 4) v_65 v_66 h_v_66) rfl rfl)) (rpr h_v_68 (dT (lCons (bAdd (xV rfl) (xV rfl)) (lCons (bSub (xV rfl) (xV rfl)) (lCons (bAdd (xV rfl) (xV rfl)) (lCons (bSub (xV rfl) (xV rfl)) lNil)))) (Nat.le_of_ble_eq_true rfl)))) (fun hc => (by have h := h_v_71; rw [if_neg (by rw [hc]; decide)] at h; obtain ⟨v_69, h_v_69, h⟩ := Mir.bindS h; obtain ⟨v_70, h_v_70, h⟩ := Mir.bindS h; have h := Option.some.inj h; subst h; exact (cNeC (fa := (eO (eP4 PyData.int PyData.int PyData.int PyData.int))) (eqO (eqP4 eqI eqI eqI eqI) (fun _ => ⟨rfl, rfl⟩)) (by decide) (ev_call_ (q := (sS ((eO (eP4 PyData.int PyData.int PyData.int PyData.int)) v_70), [(eP4 PyData.int PyData.int PyData.int PyData.int) v_69])) (D := [.inl ((eP4 PyData.int PyData.int PyData.int PyData.int) v_69)]) (L := []) (aCons (fun _ h => by cases h) (ev_call_ (q := (sS ((eP4 PyData.int PyData.int PyData.int PyData.int) v_69), [(eP4 PyData.int PyData.int PyData.int PyData.int) v_65])) (D := [.inl ((eP4 PyData.int PyData.int PyData.int PyData.int) v_65)]) (L := []) (aCons (fun _ h => by cases h) (xSh rfl) aNil) rfl (w_doubled (k + 4) v_65 v_69 h_v_69) rfl rfl) aNil) rfl (w_halved (k + 4) v_69 v_70 h_v_70) rfl rfl) (xV rfl) (fun _ _ h => by first | (cases h.1; done) | (cases h.2; done)) (fun _ _ h => by first | (cases h.1; done) | (cases h.2; done))))) (fun hc => (by have h := h_v_71; rw [if_pos hc] at h; exact (Option.some.inj h).symm))))) ?_
                  have h := Option.some.inj h; subst h
                  exact Ok.ret xB rfl (show _ ∧ _ from ⟨rfl, rfl⟩)
                · rw [if_neg hc] at h
                  have hc := Bool.eq_false_iff.mpr hc
                  refine Ok.ifF (by rw [← hc]; exact (tB (oB (cNeS (rpr h_v_67 (ev_call_ (q := (sS ((eP4 PyData.int PyData.int PyData.int PyData.int) v_66), [(eP4 PyData.int PyData.int PyData.int PyData.int) v_65])) (D := [.inl ((eP4 PyData.int PyData.int PyData.int PyData.int) v_65)]) (L := []) (aCons (fun _ h => by cases h) (xSh rfl) aNil) rfl (w_doubled (k + 4) v_65 v_66 h_v_66) rfl rfl)) (rpr h_v_68 (dT (lCons (bAdd (xV rfl) (xV rfl)) (lCons (bSub (xV rfl) (xV rfl)) (lCons (bAdd (xV rfl) (xV rfl)) (lCons (bSub (xV rfl) (xV rfl)) lNil)))) (Nat.le_of_ble_eq_true rfl)))) (fun hc => (by have h := h_v_71; rw [if_neg (by rw [hc]; decide)] at h; obtain ⟨v_69, h_v_69, h⟩ := Mir.bindS h; obtain ⟨v_70, h_v_70, h⟩ := Mir.bindS h; have h := Option.some.inj h; subst h; exact (cNeC (fa := (eO (eP4 PyData.int PyData.int PyData.int PyData.int))) (eqO (eqP4 eqI eqI eqI eqI) (fun _ => ⟨rfl, rfl⟩)) (by decide) (ev_call_ (q := (sS ((eO (eP4 PyData.int PyData.int PyData.int PyData.int)) v_70), [(eP4 PyData.int PyData.int PyData.int PyData.int) v_69])) (D := [.inl ((eP4 PyData.int PyData.int PyData.int PyData.int) v_69)]) (L := []) (aCons (fun _ h => by cases h) (ev_call_ (q := (sS ((eP4 PyData.int PyData.int PyData.int PyData.int) v_69), [(eP4 PyData.int PyData.int PyData.int PyData.int) v_65])) (D := [.inl ((eP4 PyData.int PyData.int PyData.int PyData.int) v_65)]) (L := []) (aCons (fun _ h => by cases h) (xSh rfl) aNil) rfl (w_doubled (k + 4) v_65 v_69 h_v_69) rfl rfl) aNil) rfl (w_halved (k + 4) v_69 v_70 h_v_70) rfl rfl) (xV rfl) (fun _ _ h => by first | (cases h.1; done) | (cases h.2; done)) (fun _ _ h => by first | (cases h.1; done) | (cases h.2; done))))) (fun hc => (by have h := h_v_71; rw [if_pos hc] at h; exact (Option.some.inj h).symm))))) ?_
                  refine Ok.nil ?_
                  show Ok _ _ _ [some (rS ((eL PyData.int) a_script)), some (rS (eS v_64.2)), some (sS (PyData.int m_1)), some (sS ((eL (eP4 PyData.int PyData.int PyData.int PyData.int)) v_3)), some (oS ((eL PyData.int) v_6)), some (sS ((eP4 PyData.int PyData.int PyData.int PyData.int) v_65)), u_23, some (sS ((eL PyData.int) v_31)), some (sS ((eD PyData.int PyData.int) s_3)), some (sS (PyData.int v_65.1)), some (sS (PyData.int v_65.2.1)), some (sS (PyData.int v_37.1)), some (Prod.mk f_2 ((eD PyData.int PyData.int) s_4)), some (sS ((eD PyData.int PyData.int) s_5)), u_21, some (sS (PyData.int v_65.2.2.1)), some (sS (PyData.int v_65.2.2.2)), none, none, none, none, none] _
                  obtain ⟨v_72, h_v_72, h⟩ := Mir.bindS h
                  obtain ⟨v_74, h_v_74, h⟩ := Mir.bindS h
                  obtain ⟨v_76, h_v_76, h⟩ := Mir.bindS h
                  by_cases hc : (!decide (v_74.sum = ((2 : Int) * v_76.sum))) = true
                  · rw [if_pos hc] at h
                    refine Ok.ifT (by rw [← hc]; exact (tB (cNeI (sumL (comp_ (fa := PyData.int) (fb := PyData.int) h_v_74 (iE (d := (eT PyData.int) [v_72.1, v_72.2.1, v_72.2.2.1, v_72.2.2.2]) rfl (ev_call_ (q := (sS ((eP4 PyData.int PyData.int PyData.int PyData.int) v_72), [(eP4 PyData.int PyData.int PyData.int PyData.int) v_65])) (D := [.inl ((eP4 PyData.int PyData.int PyData.int PyData.int) v_65)]) (L := []) (aCons (fun _ h => by cases h) (xSh rfl) aNil) rfl (w_doubled (k + 4) v_65 v_72 h_v_72) rfl rfl)) (ownFree1 fr_n) (fun x_7 y h => (by obtain ⟨v_73, h_v_73, h⟩ := Mir.bindS h; have h := Option.some.inj h; subst h; exact ⟨[some (rS ((eL PyData.int) a_script)), some (rS (eS v_64.2)), some (sS (PyData.int m_1)), some (sS ((eL (eP4 PyData.int PyData.int PyData.int PyData.int)) v_3)), some (oS ((eL PyData.int) v_6)), some (sS ((eP4 PyData.int PyData.int PyData.int PyData.int) v_65)), u_23, some (sS ((eL PyData.int) v_31)), some (sS ((eD PyData.int PyData.int) s_3)), some (sS (PyData.int v_65.1)), some (sS (PyData.int v_65.2.1)), some (sS (PyData.int v_37.1)), some (Prod.mk f_2 ((eD PyData.int PyData.int) s_4)), some (sS ((eD PyData.int PyData.int) s_5)), u_21, some (sS (PyData.int v_65.2.2.1)), some (sS (PyData.int v_65.2.2.2)), none, none, none, none, some (sS (PyData.int x_7))], [some (rS ((eL PyData.int) a_script)), some (rS (eS v_64.2)), some (sS (PyData.int m_1)), some (sS ((eL (eP4 PyData.int PyData.int PyData.int PyData.int)) v_3)), some (oS ((eL PyData.int) v_6)), some (sS ((eP4 PyData.int PyData.int PyData.int PyData.int) v_65)), u_23, some (sS ((eL PyData.int) v_31)), some (sS ((eD PyData.int PyData.int) s_3)), some (sS (PyData.int v_65.1)), some (sS (PyData.int v_65.2.1)), some (sS (PyData.int v_37.1)), some (Prod.mk f_2 ((eD PyData.int PyData.int) s_4)), some (sS ((eD PyData.int PyData.int) s_5)), u_21, some (sS (PyData.int v_65.2.2.1)), some (sS (PyData.int v_65.2.2.2)), none, none, none, none, some (sS (PyData.int x_7))], .sh, rfl, (by unfold p_law_12; exact (bMul h_v_73 (xV rfl) (xV rfl))), rfl, rfl⟩)) rfl)) (bMulK (mul_small' (by decide)) xI (sumL (comp_ (fa := PyData.int) (fb := PyData.int) h_v_76 (iE (d := (eT PyData.int) [v_65.1, v_65.2.1, v_65.2.2.1, v_65.2.2.2]) rfl (xSh rfl)) (ownFree1 fr_n) (fun x_8 y h => (by obtain ⟨v_75, h_v_75, h⟩ := Mir.bindS h; have h := Option.some.inj h; subst h; exact ⟨[some (rS ((eL PyData.int) a_script)), some (rS (eS v_64.2)), some (sS (PyData.int m_1)), some (sS ((eL (eP4 PyData.int PyData.int PyData.int PyData.int)) v_3)), some (oS ((eL PyData.int) v_6)), some (sS ((eP4 PyData.int PyData.int PyData.int PyData.int) v_65)), u_23, some (sS ((eL PyData.int) v_31)), some (sS ((eD PyData.int PyData.int) s_3)), some (sS (PyData.int v_65.1)), some (sS (PyData.int v_65.2.1)), some (sS (PyData.int v_37.1)), some (Prod.mk f_2 ((eD PyData.int PyData.int) s_4)), some (sS ((eD PyData.int PyData.int) s_5)), u_21, some (sS (PyData.int v_65.2.2.1)), some (sS (PyData.int v_65.2.2.2)), none, none, none, none, some (sS (PyData.int x_8))], [some (rS ((eL PyData.int) a_script)), some (rS (eS v_64.2)), some (sS (PyData.int m_1)), some (sS ((eL (eP4 PyData.int PyData.int PyData.int PyData.int)) v_3)), some (oS ((eL PyData.int) v_6)), some (sS ((eP4 PyData.int PyData.int PyData.int PyData.int) v_65)), u_23, some (sS ((eL PyData.int) v_31)), some (sS ((eD PyData.int PyData.int) s_3)), some (sS (PyData.int v_65.1)), some (sS (PyData.int v_65.2.1)), some (sS (PyData.int v_37.1)), some (Prod.mk f_2 ((eD PyData.int PyData.int) s_4)), some (sS ((eD PyData.int PyData.int) s_5)), u_21, some (sS (PyData.int v_65.2.2.1)), some (sS (PyData.int v_65.2.2.2)), none, none, none, none, some (sS (PyData.int x_8))], .sh, rfl, (by unfold p_law_13; exact (bMul h_v_75 (xV rfl) (xV rfl))), rfl, rfl⟩)) rfl)))))) ?_
                    have h := Option.some.inj h; subst h
                    exact Ok.ret xB rfl (show _ ∧ _ from ⟨rfl, rfl⟩)
                  · rw [if_neg hc] at h
                    have hc := Bool.eq_false_iff.mpr hc
                    refine Ok.ifF (by rw [← hc]; exact (tB (cNeI (sumL (comp_ (fa := PyData.int) (fb := PyData.int) h_v_74 (iE (d := (eT PyData.int) [v_72.1, v_72.2.1, v_72.2.2.1, v_72.2.2.2]) rfl (ev_call_ (q := (sS ((eP4 PyData.int PyData.int PyData.int PyData.int) v_72), [(eP4 PyData.int PyData.int PyData.int PyData.int) v_65])) (D := [.inl ((eP4 PyData.int PyData.int PyData.int PyData.int) v_65)]) (L := []) (aCons (fun _ h => by cases h) (xSh rfl) aNil) rfl (w_doubled (k + 4) v_65 v_72 h_v_72) rfl rfl)) (ownFree1 fr_n) (fun x_7 y h => (by obtain ⟨v_73, h_v_73, h⟩ := Mir.bindS h; have h := Option.some.inj h; subst h; exact ⟨[some (rS ((eL PyData.int) a_script)), some (rS (eS v_64.2)), some (sS (PyData.int m_1)), some (sS ((eL (eP4 PyData.int PyData.int PyData.int PyData.int)) v_3)), some (oS ((eL PyData.int) v_6)), some (sS ((eP4 PyData.int PyData.int PyData.int PyData.int) v_65)), u_23, some (sS ((eL PyData.int) v_31)), some (sS ((eD PyData.int PyData.int) s_3)), some (sS (PyData.int v_65.1)), some (sS (PyData.int v_65.2.1)), some (sS (PyData.int v_37.1)), some (Prod.mk f_2 ((eD PyData.int PyData.int) s_4)), some (sS ((eD PyData.int PyData.int) s_5)), u_21, some (sS (PyData.int v_65.2.2.1)), some (sS (PyData.int v_65.2.2.2)), none, none, none, none, some (sS (PyData.int x_7))], [some (rS ((eL PyData.int) a_script)), some (rS (eS v_64.2)), some (sS (PyData.int m_1)), some (sS ((eL (eP4 PyData.int PyData.int PyData.int PyData.int)) v_3)), some (oS ((eL PyData.int) v_6)), some (sS ((eP4 PyData.int PyData.int PyData.int PyData.int) v_65)), u_23, some (sS ((eL PyData.int) v_31)), some (sS ((eD PyData.int PyData.int) s_3)), some (sS (PyData.int v_65.1)), some (sS (PyData.int v_65.2.1)), some (sS (PyData.int v_37.1)), some (Prod.mk f_2 ((eD PyData.int PyData.int) s_4)), some (sS ((eD PyData.int PyData.int) s_5)), u_21, some (sS (PyData.int v_65.2.2.1)), some (sS (PyData.int v_65.2.2.2)), none, none, none, none, some (sS (PyData.int x_7))], .sh, rfl, (by unfold p_law_12; exact (bMul h_v_73 (xV rfl) (xV rfl))), rfl, rfl⟩)) rfl)) (bMulK (mul_small' (by decide)) xI (sumL (comp_ (fa := PyData.int) (fb := PyData.int) h_v_76 (iE (d := (eT PyData.int) [v_65.1, v_65.2.1, v_65.2.2.1, v_65.2.2.2]) rfl (xSh rfl)) (ownFree1 fr_n) (fun x_8 y h => (by obtain ⟨v_75, h_v_75, h⟩ := Mir.bindS h; have h := Option.some.inj h; subst h; exact ⟨[some (rS ((eL PyData.int) a_script)), some (rS (eS v_64.2)), some (sS (PyData.int m_1)), some (sS ((eL (eP4 PyData.int PyData.int PyData.int PyData.int)) v_3)), some (oS ((eL PyData.int) v_6)), some (sS ((eP4 PyData.int PyData.int PyData.int PyData.int) v_65)), u_23, some (sS ((eL PyData.int) v_31)), some (sS ((eD PyData.int PyData.int) s_3)), some (sS (PyData.int v_65.1)), some (sS (PyData.int v_65.2.1)), some (sS (PyData.int v_37.1)), some (Prod.mk f_2 ((eD PyData.int PyData.int) s_4)), some (sS ((eD PyData.int PyData.int) s_5)), u_21, some (sS (PyData.int v_65.2.2.1)), some (sS (PyData.int v_65.2.2.2)), none, none, none, none, some (sS (PyData.int x_8))], [some (rS ((eL PyData.int) a_script)), some (rS (eS v_64.2)), some (sS (PyData.int m_1)), some (sS ((eL (eP4 PyData.int PyData.int PyData.int PyData.int)) v_3)), some (oS ((eL PyData.int) v_6)), some (sS ((eP4 PyData.int PyData.int PyData.int PyData.int) v_65)), u_23, some (sS ((eL PyData.int) v_31)), some (sS ((eD PyData.int PyData.int) s_3)), some (sS (PyData.int v_65.1)), some (sS (PyData.int v_65.2.1)), some (sS (PyData.int v_37.1)), some (Prod.mk f_2 ((eD PyData.int PyData.int) s_4)), some (sS ((eD PyData.int PyData.int) s_5)), u_21, some (sS (PyData.int v_65.2.2.1)), some (sS (PyData.int v_65.2.2.2)), none, none, none, none, some (sS (PyData.int x_8))], .sh, rfl, (by unfold p_law_13; exact (bMul h_v_75 (xV rfl) (xV rfl))), rfl, rfl⟩)) rfl)))))) ?_
                    refine Ok.nil ?_
                    show Ok _ _ _ [some (rS ((eL PyData.int) a_script)), some (rS (eS v_64.2)), some (sS (PyData.int m_1)), some (sS ((eL (eP4 PyData.int PyData.int PyData.int PyData.int)) v_3)), some (oS ((eL PyData.int) v_6)), some (sS ((eP4 PyData.int PyData.int PyData.int PyData.int) v_65)), u_23, some (sS ((eL PyData.int) v_31)), some (sS ((eD PyData.int PyData.int) s_3)), some (sS (PyData.int v_65.1)), some (sS (PyData.int v_65.2.1)), some (sS (PyData.int v_37.1)), some (Prod.mk f_2 ((eD PyData.int PyData.int) s_4)), some (sS ((eD PyData.int PyData.int) s_5)), u_21, some (sS (PyData.int v_65.2.2.1)), some (sS (PyData.int v_65.2.2.2)), none, none, none, none, none] _
                    obtain ⟨v_77, h_v_77, h⟩ := Mir.bindS h
                    refine Ok.asg (ρ' := [some (rS ((eL PyData.int) a_script)), some (rS (eS v_64.2)), some (sS (PyData.int m_1)), some (sS ((eL (eP4 PyData.int PyData.int PyData.int PyData.int)) v_3)), some (oS ((eL PyData.int) v_6)), some (sS ((eP4 PyData.int PyData.int PyData.int PyData.int) v_65)), u_23, some (sS ((eL PyData.int) v_31)), some (sS ((eD PyData.int PyData.int) s_3)), some (sS (PyData.int v_65.1)), some (sS (PyData.int v_65.2.1)), some (sS (PyData.int v_37.1)), some (Prod.mk f_2 ((eD PyData.int PyData.int) s_4)), some (sS ((eD PyData.int PyData.int) s_5)), u_21, some (sS (PyData.int v_65.2.2.1)), some (sS (PyData.int v_65.2.2.2)), some (sS ((eO (eP4 PyData.int PyData.int PyData.int PyData.int)) v_77)), none, none, none, none]) (ev_call_ (q := (sS ((eO (eP4 PyData.int PyData.int PyData.int PyData.int)) v_77), [(eP4 PyData.int PyData.int PyData.int PyData.int) v_65])) (D := [.inl ((eP4 PyData.int PyData.int PyData.int PyData.int) v_65)]) (L := []) (aCons (fun _ h => by cases h) (xSh rfl) aNil) rfl (w_halved (k + 4) v_65 v_77 h_v_77) rfl rfl) rfl ?_
                    obtain ⟨fits_1, h_fits_1, h⟩ := Mir.bindS h
                    have e_fits_1 := Option.some.inj h_fits_1
                    refine Ok.asg (ρ' := [some (rS ((eL PyData.int) a_script)), some (rS (eS v_64.2)), some (sS (PyData.int m_1)), some (sS ((eL (eP4 PyData.int PyData.int PyData.int PyData.int)) v_3)), some (oS ((eL PyData.int) v_6)), some (sS ((eP4 PyData.int PyData.int PyData.int PyData.int) v_65)), u_23, some (sS ((eL PyData.int) v_31)), some (sS ((eD PyData.int PyData.int) s_3)), some (sS (PyData.int v_65.1)), some (sS (PyData.int v_65.2.1)), some (sS (PyData.int v_37.1)), some (Prod.mk f_2 ((eD PyData.int PyData.int) s_4)), some (sS ((eD PyData.int PyData.int) s_5)), u_21, some (sS (PyData.int v_65.2.2.1)), some (sS (PyData.int v_65.2.2.2)), some (sS ((eO (eP4 PyData.int PyData.int PyData.int PyData.int)) v_77)), some (sS (PyData.bool fits_1)), none, none, none]) (aB2 (cEqI (bModK (by decide) (b1I (bSub (xV rfl) (xV rfl))) xI) xI) (fun _ => (cEqI (bModK (by decide) (b1I (bSub (xV rfl) (xV rfl))) xI) xI))) (by subst e_fits_1; rfl) ?_
                    obtain ⟨v_81, h_v_81, h⟩ := Mir.bindS h
                    have h := Option.some.inj h; subst h
                    exact Ok.ret (aB (cEqC (fa := PyData.bool) eqB (by decide) (noN_ (fun _ => rfl) (xV rfl) xN) (xV rfl) (fun _ _ h => by first | (cases h.1; done) | (cases h.2; done)) (fun _ _ h => by first | (cases h.1; done) | (cases h.2; done))) (fun hc => (by have h := h_v_81; rw [if_pos hc] at h; obtain ⟨v_80, h_v_80, h⟩ := Mir.bindS h; have h := Option.some.inj h; subst h; exact (oB (isN_ (fun _ => rfl) (xV rfl) xN) (fun hc => (by have h := h_v_80; rw [if_neg (by rw [hc]; decide)] at h; obtain ⟨v_78, h_v_78, h⟩ := Mir.bindS h; obtain ⟨v_79, h_v_79, h⟩ := Mir.bindS h; have h := Option.some.inj h; subst h; exact (cEqC (fa := (eP4 PyData.int PyData.int PyData.int PyData.int)) (eqP4 eqI eqI eqI eqI) (by decide) (ev_call_ (q := (sS ((eP4 PyData.int PyData.int PyData.int PyData.int) v_79), [(eP4 PyData.int PyData.int PyData.int PyData.int) v_78])) (D := [.inl ((eP4 PyData.int PyData.int PyData.int PyData.int) v_78)]) (L := []) (aCons (fun _ h => by cases h) (unO h_v_78 (xSh rfl)) aNil) rfl (w_doubled (k + 4) v_78 v_79 h_v_79) rfl rfl) (xV rfl) (fun _ _ h => by first | (cases h.1; done) | (cases h.2; done)) (fun _ _ h => by first | (cases h.1; done) | (cases h.2; done))))) (fun hc => (by have h := h_v_80; rw [if_pos hc] at h; exact (Option.some.inj h).symm))))) (fun hc => (by have h := h_v_81; rw [if_neg (by rw [hc]; decide)] at h; exact (Option.some.inj h).symm))) rfl (show _ ∧ _ from ⟨rfl, rfl⟩)
end K71

end
section
set_option Elab.async false
set_option linter.all false
set_option maxRecDepth 100000
set_option maxHeartbeats 4000000
/-! Srt: merge sort by recursion on a number, so that the kernel can run it. -/
namespace Mir
open PySem Mini
def mg {α : Type} (le : α → α → Bool) : Nat → List α → List α → List α
  | 0, _, _ => []
  | _ + 1, [], ys => ys
  | _ + 1, x :: xs, [] => x :: xs
  | n + 1, x :: xs, y :: ys => bif le x y then x :: mg le n xs (y :: ys) else y :: mg le n (x :: xs) ys
theorem mg_eq {α : Type} (le : α → α → Bool) : ∀ (n : Nat) (xs ys : List α), xs.length + ys.length < n → List.merge xs ys le = mg le n xs ys
  | 0, xs, ys, h => absurd h (Nat.not_lt_zero _)
  | n + 1, [], ys, h => by rw [List.merge.eq_def]; rfl
  | n + 1, x :: xs, [], h => by rw [List.merge.eq_def]; rfl
  | n + 1, x :: xs, y :: ys, h => by
    rw [List.cons_merge_cons]
    show _ = bif le x y then x :: mg le n xs (y :: ys) else y :: mg le n (x :: xs) ys
    simp only [List.length_cons] at h
    cases hl : le x y with
    | true => rw [if_pos rfl, mg_eq le n xs (y :: ys) (by simp only [List.length_cons]; omega)]; rfl
    | false => rw [if_neg (by decide), mg_eq le n (x :: xs) ys (by simp only [List.length_cons]; omega)]; rfl
def ms {α : Type} (le : α → α → Bool) : Nat → List α → List α
  | 0, xs => xs
  | _ + 1, [] => []
  | _ + 1, [a] => [a]
  | n + 1, a :: b :: xs => (fun k => mg le (xs.length + 3) (ms le n ((a :: b :: xs).take k)) (ms le n ((a :: b :: xs).drop k))) ((xs.length + 3) / 2)
theorem ms_len {α : Type} (le : α → α → Bool) (n : Nat) (xs : List α) (h : xs.mergeSort le = ms le n xs) : (ms le n xs).length = xs.length := by
  rw [← h, List.length_mergeSort]
theorem ms_eq {α : Type} (le : α → α → Bool) : ∀ (n : Nat) (xs : List α), xs.length ≤ n → xs.mergeSort le = ms le n xs
  | 0, xs, h => by
    have : xs = [] := List.length_eq_zero_iff.mp (Nat.le_zero.mp h)
    subst this
    simp [ms]
  | n + 1, [], h => by simp [ms]
  | n + 1, [a], h => by simp [ms]
  | n + 1, a :: b :: xs, h => by
    simp only [List.length_cons] at h
    rw [List.mergeSort]
    simp only [List.MergeSort.Internal.splitInTwo_fst, List.MergeSort.Internal.splitInTwo_snd, List.length_cons]
    have hk : (xs.length + 1 + 1 + 1) / 2 = (xs.length + 3) / 2 := rfl
    rw [hk]
    have h1 : ((a :: b :: xs).take ((xs.length + 3) / 2)).length ≤ n := by
      rw [List.length_take]
      simp only [List.length_cons]
      omega
    have h2 : ((a :: b :: xs).drop ((xs.length + 3) / 2)).length ≤ n := by
      rw [List.length_drop]
      simp only [List.length_cons]
      omega
    have e1 := ms_eq le n _ h1
    have e2 := ms_eq le n _ h2
    show List.merge (List.mergeSort ((a :: b :: xs).take ((xs.length + 3) / 2)) le) (List.mergeSort ((a :: b :: xs).drop ((xs.length + 3) / 2)) le) le = mg le (xs.length + 3) (ms le n ((a :: b :: xs).take ((xs.length + 3) / 2))) (ms le n ((a :: b :: xs).drop ((xs.length + 3) / 2)))
    rw [e1, e2]
    refine mg_eq le _ _ _ ?_
    rw [ms_len le n _ e1, ms_len le n _ e2, List.length_take, List.length_drop]
    simp only [List.length_cons]
    omega
theorem ms_self {α : Type} (le : α → α → Bool) (xs : List α) : xs.mergeSort le = ms le xs.length xs := ms_eq le _ xs (Nat.le_refl _)
def sortK {α : Type} (f : α → Dt) (xs : List α) : Option (List α) := match allI (xs.map f) with
  | some _ => none
  | none => bif sortOk (xs.map f) then some (ms (fun a b => leD (f a) (f b)) xs.length xs) else none
theorem sortC_eq {α : Type} (f : α → Dt) (xs : List α) : sortC f xs = sortK f xs := by
  unfold sortC sortK
  cases allI (xs.map f) with
  | some _ => rfl
  | none =>
    show (if sortOk (xs.map f) = true then _ else _) = bif sortOk (xs.map f) then _ else _
    rw [ms_self]
    cases sortOk (xs.map f) <;> rfl
end Mir

end
section
set_option Elab.async false
set_option linter.all false
set_option maxRecDepth 100000
set_option maxHeartbeats 4000000
/-! k71: the law in three parts. -/
namespace Lw
open PySem Mini Mir
abbrev P4 := Int × Int × Int × Int
abbrev LK := List P4 → List Int → List Int → List (Int × Int) → Option Bool
def lawA (a_script : List Int) (v_2 : Int × Src) (m_1 : Int) (κ : LK) : Option Bool :=
  Option.bind (m__law_quadruples m_1) fun v_3 => Option.bind (rngI (1 : Int) (m_1 + (1 : Int))) fun v_4 => Option.bind (filC v_4 (fun x_1 => Option.bind (modI m_1 x_1) fun v_5 => some (decide (v_5 = (0 : Int)))) (fun x_1 => some x_1)) fun v_6 => Option.bind (m_odd_quadruples m_1) fun v_7 => Option.bind (reprC ((eT (eP4 PyData.int PyData.int PyData.int PyData.int)) v_7)) fun v_8 => Option.bind (reprC ((eT (eP4 PyData.int PyData.int PyData.int PyData.int)) v_3)) fun v_9 => Option.bind ((if (!decide (v_8 = v_9)) = true then some true else Option.bind (m_divisors_of m_1) fun v_10 => Option.bind (reprC ((eT PyData.int) v_10)) fun v_11 => Option.bind (reprC ((eT PyData.int) v_6)) fun v_12 => some (!decide (v_11 = v_12)))) fun v_13 => (if v_13 = true then some false else Option.bind (forR (m_law_0 a_script v_2 m_1 v_3 v_6) v_3 ()) fun o_1 => (match o_1 with | .inl s_1 => Option.bind (m_signs_added m_1) fun v_24 => Option.bind (reprC (PyData.int v_24)) fun v_25 => Option.bind (mapC v_3 (fun x_2 => Option.bind (m__law_sign x_2) fun v_26 => some v_26)) fun v_27 => Option.bind (reprC (PyData.int v_27.sum)) fun v_28 => (if (!decide (v_25 = v_28)) = true then some false else Option.bind (rng3I (1 : Int) (((2 : Int) * m_1) + (2 : Int)) (2 : Int)) fun v_29 => Option.bind (mapC v_29 (fun x_3 => Option.bind (mulI x_3 x_3) fun v_30 => some v_30)) fun v_31 => Option.bind (List.foldlM (m_law_1 a_script v_2 m_1 v_3 v_6 v_31) [] v_31) fun s_3 => Option.bind (m_odd_tuples m_1) fun v_33 => Option.bind (reprC (PyData.int v_33)) fun v_34 => Option.bind (m__law_pairs ((4 : Int) * m_1) s_3) fun v_35 => Option.bind (reprC (PyData.int v_35)) fun v_36 => (if (!decide (v_34 = v_36)) = true then some false else κ v_3 v_6 v_31 s_3)) | .inr t => some t))
def lawB (a_script : List Int) (v_37 : Int × Src) (m_1 : Int) (v_3 : List P4) (v_6 v_31 : List Int) (s_3 : List (Int × Int)) (κ : Option Bool) : Option Bool :=
  Option.bind (some [((0 : Int), (1 : Int))]) fun squares_1 => Option.bind (rngI (1 : Int) (15 : Int)) fun v_38 => Option.bind (List.foldlM (m_law_3 a_script v_37 m_1 v_3 v_6 v_31 s_3) squares_1 v_38) fun s_4 => Option.bind (rng1I (v_37.1 + (1 : Int))) fun v_41 => Option.bind (List.foldlM (m_law_4 a_script v_37 m_1 v_3 v_6 v_31 s_3 s_4) [] v_41) fun s_5 => Option.bind (m_count_two_squares v_37.1) fun v_44 => Option.bind (m_count_four_squares v_37.1) fun v_45 => Option.bind (reprC ((eL PyData.int) (v_44 :: [v_45]))) fun v_46 => Option.bind (dGet s_5 v_37.1) fun v_47 => Option.bind (m__law_pairs v_37.1 s_5) fun v_48 => Option.bind (reprC ((eL PyData.int) (v_47 :: [v_48]))) fun v_49 => (if (!decide (v_46 = v_49)) = true then some false else Option.bind ((if (decide ((0 : Int) < v_37.1)) = true then Option.bind (m_has_two_squares v_37.1) fun v_50 => Option.bind (reprC (PyData.bool v_50)) fun v_51 => Option.bind (dGet s_5 v_37.1) fun v_52 => Option.bind (reprC (PyData.bool (decide ((0 : Int) < v_52)))) fun v_53 => some (!decide (v_51 = v_53)) else some false)) fun v_54 => (if v_54 = true then some false else Option.bind ((if (decide ((0 : Int) < v_37.1)) = true then Option.bind (m_divisors_of v_37.1) fun v_55 => Option.bind (reprC ((eT PyData.int) v_55)) fun v_56 => Option.bind (rngI (1 : Int) (v_37.1 + (1 : Int))) fun v_57 => Option.bind (filC v_57 (fun x_4 => Option.bind (modI v_37.1 x_4) fun v_58 => some (decide (v_58 = (0 : Int)))) (fun x_4 => some x_4)) fun v_59 => Option.bind (reprC ((eT PyData.int) v_59)) fun v_60 => some (!decide (v_56 = v_60)) else some false)) fun v_61 => (if v_61 = true then some false else κ)))
def lawC (v_37 : Int × Src) : Option Bool :=
  Option.bind (rng1I (4 : Int)) fun v_62 => Option.bind (mapS v_62 (fun z_1 x_6 => Option.bind (m__law_pick z_1 (200 : Int)) fun v_63 => some ((v_63.1 - (100 : Int)), v_63.2)) v_37.2) fun v_64 => Option.bind (toP4 v_64.1) fun v_65 => Option.bind (m_doubled v_65) fun v_66 => Option.bind (reprC ((eP4 PyData.int PyData.int PyData.int PyData.int) v_66)) fun v_67 => Option.bind (reprC ((eP4 PyData.int PyData.int PyData.int PyData.int) ((v_65.1 + v_65.2.1), (v_65.1 - v_65.2.1), (v_65.2.2.1 + v_65.2.2.2), (v_65.2.2.1 - v_65.2.2.2)))) fun v_68 => Option.bind ((if (!decide (v_67 = v_68)) = true then some true else Option.bind (m_doubled v_65) fun v_69 => Option.bind (m_halved v_69) fun v_70 => some (!decide (v_70 = (some v_65))))) fun v_71 => (if v_71 = true then some false else Option.bind (m_doubled v_65) fun v_72 => Option.bind (mapC [v_72.1, v_72.2.1, v_72.2.2.1, v_72.2.2.2] (fun x_7 => Option.bind (mulI x_7 x_7) fun v_73 => some v_73)) fun v_74 => Option.bind (mapC [v_65.1, v_65.2.1, v_65.2.2.1, v_65.2.2.2] (fun x_8 => Option.bind (mulI x_8 x_8) fun v_75 => some v_75)) fun v_76 => (if (!decide (v_74.sum = ((2 : Int) * v_76.sum))) = true then some false else Option.bind (m_halved v_65) fun v_77 => Option.bind (some ((decide ((Int.fmod (v_65.1 - v_65.2.1) (2 : Int)) = (0 : Int))) && (decide ((Int.fmod (v_65.2.2.1 - v_65.2.2.2) (2 : Int)) = (0 : Int))))) fun fits_1 => Option.bind ((if (decide (v_77.isSome = fits_1)) = true then Option.bind ((if v_77.isNone = true then some true else Option.bind (v_77) fun v_78 => Option.bind (m_doubled v_78) fun v_79 => some (decide (v_79 = v_65)))) fun v_80 => some v_80 else some false)) fun v_81 => some v_81))
theorem law_cut (a_script : List Int) : m_law a_script = (m__law_source a_script).bind fun v_1 => (m__law_pick v_1 14).bind fun v_2 => lawA a_script v_2 (1 + 2 * v_2.1) fun v_3 v_6 v_31 s_3 => (m__law_pick v_2.2 200).bind fun v_37 => lawB a_script v_37 (1 + 2 * v_2.1) v_3 v_6 v_31 s_3 (lawC v_37) := rfl
end Lw

end
section
set_option Elab.async false
set_option linter.all false
set_option maxRecDepth 100000
set_option maxHeartbeats 4000000
/-! k71: the first part, for the kernel. -/
namespace Lw
open PySem Mini Mir
def k__law_quadruples (a_m : Int) : Option (List (Int × Int × Int × Int)) :=
  Option.bind (rng3I (1 : Int) ((2 : Int) * a_m) (2 : Int)) fun v_1 => Option.bind (List.foldlM (m__law_quadruples_0 a_m) [] v_1) fun s_2 => Option.bind (sortK (eP4 PyData.int PyData.int PyData.int PyData.int) s_2) fun v_11 => Option.bind (filC v_11 (fun x_3 => some (decide ((Int.fmod x_3.2.2.2 (2 : Int)) = (1 : Int)))) (fun x_3 => some x_3)) fun v_12 => some v_12
def k_odd_quadruples (a_m : Int) : Option (List (Int × Int × Int × Int)) :=
  Option.bind (rng3I (1 : Int) ((2 : Int) * a_m) (2 : Int)) fun v_1 => Option.bind (List.foldlM (m_odd_quadruples_0 a_m) [] v_1) fun s_2 => Option.bind (sortK (eP4 PyData.int PyData.int PyData.int PyData.int) s_2) fun v_8 => some v_8
def k_signs_added (a_m : Int) : Option Int :=
  Option.bind (k_odd_quadruples a_m) fun v_1 => Option.bind (mapC v_1 (fun x_1 => Option.bind (m_quadruple_sign x_1) fun v_2 => some v_2)) fun v_3 => some v_3.sum
def lawK (a_script : List Int) (v_2 : Int × Src) (m_1 : Int) (κ : LK) : Option Bool :=
  Option.bind (k__law_quadruples m_1) fun v_3 => Option.bind (rngI (1 : Int) (m_1 + (1 : Int))) fun v_4 => Option.bind (filC v_4 (fun x_1 => Option.bind (modI m_1 x_1) fun v_5 => some (decide (v_5 = (0 : Int)))) (fun x_1 => some x_1)) fun v_6 => Option.bind (k_odd_quadruples m_1) fun v_7 => Option.bind (reprC ((eT (eP4 PyData.int PyData.int PyData.int PyData.int)) v_7)) fun v_8 => Option.bind (reprC ((eT (eP4 PyData.int PyData.int PyData.int PyData.int)) v_3)) fun v_9 => Option.bind ((if (!decide (v_8 = v_9)) = true then some true else Option.bind (m_divisors_of m_1) fun v_10 => Option.bind (reprC ((eT PyData.int) v_10)) fun v_11 => Option.bind (reprC ((eT PyData.int) v_6)) fun v_12 => some (!decide (v_11 = v_12)))) fun v_13 => (if v_13 = true then some false else Option.bind (forR (m_law_0 a_script v_2 m_1 v_3 v_6) v_3 ()) fun o_1 => (match o_1 with | .inl s_1 => Option.bind (k_signs_added m_1) fun v_24 => Option.bind (reprC (PyData.int v_24)) fun v_25 => Option.bind (mapC v_3 (fun x_2 => Option.bind (m__law_sign x_2) fun v_26 => some v_26)) fun v_27 => Option.bind (reprC (PyData.int v_27.sum)) fun v_28 => (if (!decide (v_25 = v_28)) = true then some false else Option.bind (rng3I (1 : Int) (((2 : Int) * m_1) + (2 : Int)) (2 : Int)) fun v_29 => Option.bind (mapC v_29 (fun x_3 => Option.bind (mulI x_3 x_3) fun v_30 => some v_30)) fun v_31 => Option.bind (List.foldlM (m_law_1 a_script v_2 m_1 v_3 v_6 v_31) [] v_31) fun s_3 => Option.bind (m_odd_tuples m_1) fun v_33 => Option.bind (reprC (PyData.int v_33)) fun v_34 => Option.bind (m__law_pairs ((4 : Int) * m_1) s_3) fun v_35 => Option.bind (reprC (PyData.int v_35)) fun v_36 => (if (!decide (v_34 = v_36)) = true then some false else κ v_3 v_6 v_31 s_3)) | .inr t => some t))
theorem k1 : m__law_quadruples = k__law_quadruples := by
  funext m
  unfold m__law_quadruples k__law_quadruples
  simp only [sortC_eq]
theorem k2 : m_odd_quadruples = k_odd_quadruples := by
  funext m
  unfold m_odd_quadruples k_odd_quadruples
  simp only [sortC_eq]
theorem k3 : m_signs_added = k_signs_added := by
  funext m
  unfold m_signs_added k_signs_added
  rw [k2]
theorem lawK_eq : lawA = lawK := by
  unfold lawA lawK
  rw [k1, k2, k3] <;> rfl
end Lw

end
section
set_option Elab.async false
set_option linter.all false
set_option maxRecDepth 100000
set_option maxHeartbeats 4000000
/-! k71: the first part, checked by the kernel for each of the fourteen numbers. -/
namespace Lw
open PySem Mini Mir
abbrev e4 : P4 → Dt := eP4 PyData.int PyData.int PyData.int PyData.int
def sgnK (v3 : List P4) (e : P4) : Bool :=
  match m_quadruple_sign e, m__law_sign e with
  | some a, some b => decide (a = b) && shows (PyData.int a) && (decide (e.1 = e.2.2.1) || match m_turned_quadruple e with
    | some t => memB t v3 && (match m__law_sign t with | some c => !decide (c = b) | none => false) && decide (m_turned_quadruple t = some e) && !((!decide ((decide (t.2.2.1 < t.1)) = (decide (e.2.2.1 < e.1)))) || (!decide ((absI (t.1 - t.2.2.1)) = (e.2.1 + e.2.2.2))))
    | none => false)
  | _, _ => false
theorem reprC_some {d : Dt} (h : shows d = true) : reprC d = some d.shown := if_pos h
theorem law0_ok {ns : List Int} {v2 : Int × Src} {m : Int} {v3 : List P4} {v6 : List Int} {e : P4} (h : sgnK v3 e = true) : m_law_0 ns v2 m v3 v6 () e = some (.inl ()) := by
  unfold sgnK at h
  unfold m_law_0
  cases h1 : m_quadruple_sign e with
  | none => rw [h1] at h; cases h
  | some a =>
    cases h2 : m__law_sign e with
    | none => rw [h1, h2] at h; cases h
    | some b =>
      rw [h1, h2] at h
      simp only [Bool.and_eq_true, decide_eq_true_eq] at h
      obtain ⟨⟨rfl, hs⟩, h⟩ := h
      simp only [Option.bind_some, reprC_some hs]
      by_cases he : e.1 = e.2.2.1
      · simp [he]
      · simp only [he, decide_false, Bool.not_false, if_true]
        simp only [he, decide_false, Bool.false_or] at h
        cases h3 : m_turned_quadruple e with
        | none => rw [h3] at h; cases h
        | some t =>
          rw [h3] at h
          cases h4 : m__law_sign t with
          | none => simp [h4] at h
          | some c =>
            simp only [h4, Bool.and_eq_true] at h
            obtain ⟨⟨⟨k1, k2⟩, k3⟩, k4⟩ := h
            have k3' := of_decide_eq_true k3
            have k2' : (decide (c = a)) = false := by simpa using k2
            have k4' := (Bool.not_eq_true' _).mp k4
            simp only [Option.bind_some, k1, h4, k2', k3', k4']
            simp
theorem forR_all {σ α τ : Type} {g : σ → α → Option (σ ⊕ τ)} {s : σ} : ∀ {xs : List α} (h : ∀ x ∈ xs, g s x = some (.inl s)), forR g xs s = some (.inl s)
  | [], _ => rfl
  | x :: xs, h => by
    unfold forR
    rw [h x (List.mem_cons_self ..)]
    exact forR_all fun y hy => h y (List.mem_cons_of_mem _ hy)
def divsK (m : Int) : Option (List Int) := (rngI 1 (m + 1)).bind fun v4 => filC v4 (fun x => Option.bind (modI m x) fun v => some (decide (v = (0 : Int)))) (fun x => some x)
def oddK (m : Int) : Option (List Int) := (rng3I (1 : Int) (((2 : Int) * m) + (2 : Int)) (2 : Int)).bind fun v29 => mapC v29 (fun x => Option.bind (mulI x x) fun v => some v)
def pairK (v31 : List Int) : Option (List (Int × Int)) := List.foldlM (fun st e1 => Option.bind (List.foldlM (fun st2 e2 => Option.bind (dPutI st2 (e1 + e2) (((dGet st2 (e1 + e2)).getD (0 : Int)) + (1 : Int))) fun v => some v) st v31) fun s => some s) [] v31
def chkA (m : Int) : Bool :=
  match k__law_quadruples m, divsK m, oddK m with
  | some v3, some v6, some v31 => decide (k_odd_quadruples m = some v3) && shows (eT e4 v3) && decide (m_divisors_of m = some v6) && shows (eT PyData.int v6) && v3.all (sgnK v3) &&
    (match mapC v3 (fun x => Option.bind (m__law_sign x) fun v => some v), pairK v31, m_odd_tuples m with
    | some v27, some s3, some v33 => decide (k_signs_added m = some v27.sum) && shows (PyData.int v27.sum) && decide (m__law_pairs (4 * m) s3 = some v33) && shows (PyData.int v33)
    | _, _, _ => false)
  | _, _, _ => false
theorem lawA_ok {m : Int} (h : chkA m = true) : ∃ (v3 : List P4) (v6 v31 : List Int) (s3 : List (Int × Int)), ∀ ns v2 κ, lawA ns v2 m κ = κ v3 v6 v31 s3 := by
  unfold chkA at h
  cases h1 : k__law_quadruples m with
  | none => rw [h1] at h; cases h
  | some v3 =>
  cases h2 : divsK m with
  | none => rw [h1, h2] at h; cases h
  | some v6 =>
  cases h3 : oddK m with
  | none => rw [h1, h2, h3] at h; cases h
  | some v31 =>
  rw [h1, h2, h3] at h
  cases h4 : mapC v3 (fun x => Option.bind (m__law_sign x) fun v => some v) with
  | none => simp only [h4, Bool.and_false] at h; cases h
  | some v27 =>
  cases h5 : pairK v31 with
  | none => simp only [h4, h5, Bool.and_false] at h; cases h
  | some s3 =>
  cases h6 : m_odd_tuples m with
  | none => simp only [h4, h5, h6, Bool.and_false] at h; cases h
  | some v33 =>
  simp only [h4, h5, h6, Bool.and_eq_true, decide_eq_true_eq] at h
  obtain ⟨⟨⟨⟨⟨a1, a2⟩, a3⟩, a4⟩, a5⟩, ⟨⟨a6, a7⟩, a8⟩, a9⟩ := h
  refine ⟨v3, v6, v31, s3, fun ns v2 κ => ?_⟩
  have b1 : ∀ st, (Option.bind (rngI (1 : Int) (m + (1 : Int))) fun v_4 => Option.bind (filC v_4 (fun x_1 => Option.bind (modI m x_1) fun v_5 => some (decide (v_5 = (0 : Int)))) (fun x_1 => some x_1)) st : Option Bool) = st v6 := by
    intro st
    rw [← Option.bind_assoc]
    show (divsK m).bind st = _
    rw [h2]
    rfl
  have b2 : ∀ st, (Option.bind (rng3I (1 : Int) (((2 : Int) * m) + (2 : Int)) (2 : Int)) fun v_29 => Option.bind (mapC v_29 (fun x_3 => Option.bind (mulI x_3 x_3) fun v_30 => some v_30)) st : Option Bool) = st v31 := by
    intro st
    rw [← Option.bind_assoc]
    show (oddK m).bind st = _
    rw [h3]
    rfl
  have b3 : List.foldlM (m_law_1 ns v2 m v3 v6 v31) [] v31 = some s3 := h5
  have b4 : forR (m_law_0 ns v2 m v3 v6) v3 () = some (.inl ()) := forR_all fun x hx => law0_ok (List.all_eq_true.mp a5 x hx)
  rw [lawK_eq]
  unfold lawK
  simp only [h1, Option.bind_some, b1, a1, reprC_some a2, a3, reprC_some a4, decide_true, Bool.not_true, Bool.false_eq_true, if_false, b4, a6, reprC_some a7, h4, b2, b3, h6, a8, reprC_some a9]
end Lw

end
section
set_option Elab.async false
set_option linter.all false
set_option maxRecDepth 100000
set_option maxHeartbeats 4000000
/-! Dicts that count: sums over them. -/
namespace Lw
open PySem Mini Mir
abbrev Dct := List (Int × Int)
theorem dGet_cons (a b : Int) (d : Dct) (k : Int) : dGet ((a, b) :: d) k = if a = k then some b else dGet d k := by
  unfold dGet
  by_cases h : a = k
  · simp [h]
  · simp [h]
def keys (d : Dct) : List Int := d.map (·.1)
def rep (k v : Int) (d : Dct) : Dct := d.map fun p => if decide (p.1 = k) = true then (p.1, v) else p
theorem dGet_none {d : Dct} {k : Int} (h : k ∉ keys d) : dGet d k = none := by
  induction d with
  | nil => rfl
  | cons p d ih =>
    obtain ⟨a, b⟩ := p
    simp only [keys, List.map_cons, List.mem_cons, not_or] at h
    rw [dGet_cons, if_neg (fun e => h.1 e.symm)]
    exact ih h.2
theorem dGet_mem {d : Dct} {k : Int} (h : k ∈ keys d) : ∃ v, dGet d k = some v := by
  induction d with
  | nil => cases h
  | cons p d ih =>
    obtain ⟨a, b⟩ := p
    rw [dGet_cons]
    by_cases e : a = k
    · exact ⟨b, if_pos e⟩
    · rw [if_neg e]
      refine ih ?_
      simp only [keys, List.map_cons, List.mem_cons] at h
      rcases h with h | h
      · exact absurd h.symm e
      · exact h
theorem dPut_mem {d : Dct} {k v : Int} (h : k ∈ keys d) : dPut d k v = rep k v d := by
  unfold dPut
  rw [if_pos]
  · rfl
  · obtain ⟨p, hp, e⟩ := List.mem_map.mp h
    exact List.any_eq_true.mpr ⟨p, hp, decide_eq_true e⟩
theorem dPut_new {d : Dct} {k v : Int} (h : k ∉ keys d) : dPut d k v = d ++ [(k, v)] := by
  unfold dPut
  rw [if_neg]
  intro h2
  obtain ⟨p, hp, e⟩ := List.any_eq_true.mp h2
  exact h (List.mem_map.mpr ⟨p, hp, of_decide_eq_true e⟩)
theorem rep_keys (k v : Int) (d : Dct) : keys (rep k v d) = keys d := by
  unfold keys rep
  rw [List.map_map]
  refine List.map_congr_left fun p _ => ?_
  show (if decide (p.1 = k) = true then (p.1, v) else p).1 = p.1
  by_cases h : p.1 = k <;> simp [h]
theorem rep_new {k v : Int} {d : Dct} (h : k ∉ keys d) : rep k v d = d := by
  unfold rep
  rw [List.map_congr_left (g := id), List.map_id]
  intro p hp
  have : p.1 ≠ k := fun e => h (List.mem_map.mpr ⟨p, hp, e⟩)
  simp [this]
theorem get_rep {k v t : Int} {d : Dct} (h : k ∈ keys d) : dGet (rep k v d) t = if k = t then some v else dGet d t := by
  by_cases hk : k = t
  · subst hk
    rw [if_pos rfl]
    induction d with
    | nil => cases h
    | cons p d ih =>
      obtain ⟨a, b⟩ := p
      by_cases e : a = k
      · subst e
        simp only [rep, List.map_cons, decide_true, if_true]
        rw [dGet_cons, if_pos rfl]
      · simp only [rep, List.map_cons, e, decide_false]
        show dGet ((a, b) :: rep k v d) k = _
        rw [dGet_cons, if_neg e]
        simp only [keys, List.map_cons, List.mem_cons] at h
        exact ih (h.resolve_left fun x => e x.symm)
  · rw [if_neg hk]
    clear h
    induction d with
    | nil => rfl
    | cons p d ih =>
      obtain ⟨a, b⟩ := p
      by_cases e : a = k
      · subst e
        simp only [rep, List.map_cons, decide_true, if_true]
        show dGet ((a, v) :: rep a v d) t = _
        rw [dGet_cons, dGet_cons, if_neg hk, if_neg hk]
        exact ih
      · simp only [rep, List.map_cons, e, decide_false]
        show dGet ((a, b) :: rep k v d) t = _
        rw [dGet_cons, dGet_cons, ih]
theorem get_app {k v t : Int} {d : Dct} (h : k ∉ keys d) : dGet (d ++ [(k, v)]) t = if k = t then some v else dGet d t := by
  induction d with
  | nil => rw [List.nil_append, dGet_cons]
  | cons p d ih =>
    obtain ⟨a, b⟩ := p
    simp only [keys, List.map_cons, List.mem_cons, not_or] at h
    rw [List.cons_append, dGet_cons, dGet_cons, ih h.2]
    by_cases e : a = t
    · have : k ≠ t := fun x => h.1 (x.trans e.symm)
      simp [e, this]
    · simp [e]
theorem get_put (d : Dct) (k v t : Int) : dGet (dPut d k v) t = if k = t then some v else dGet d t := by
  by_cases h : k ∈ keys d
  · rw [dPut_mem h, get_rep h]
  · rw [dPut_new h, get_app h]
theorem nodup_put {d : Dct} (k v : Int) (h : (keys d).Nodup) : (keys (dPut d k v)).Nodup := by
  by_cases hk : k ∈ keys d
  · rw [dPut_mem hk, rep_keys]
    exact h
  · rw [dPut_new hk]
    unfold keys
    rw [List.map_append]
    refine List.nodup_append.mpr ⟨h, by simp, ?_⟩
    intro a ha b hb e
    simp only [List.map_cons, List.map_nil, List.mem_singleton] at hb
    subst hb
    subst e
    exact hk ha
def S (f : Int → Int) (d : Dct) : Int := (d.map fun p => p.2 * f p.1).sum
theorem S_rep {f : Int → Int} {k v : Int} : ∀ {d : Dct} (hn : (keys d).Nodup) (h : k ∈ keys d), S f (rep k v d) = S f d + (v - (dGet d k).getD 0) * f k
  | [], _, h => by cases h
  | (a, b) :: d, hn, h => by
    simp only [keys, List.map_cons, List.nodup_cons] at hn
    by_cases e : a = k
    · subst e
      have hr : rep a v d = d := rep_new hn.1
      have e1 : rep a v ((a, b) :: d) = (a, v) :: rep a v d := by simp [rep]
      rw [e1, hr, dGet_cons, if_pos rfl]
      simp only [S, List.map_cons, List.sum_cons, Option.getD_some, Int.sub_mul]
      omega
    · have e1 : rep k v ((a, b) :: d) = (a, b) :: rep k v d := by simp [rep, e]
      simp only [keys, List.map_cons, List.mem_cons] at h
      have ih := S_rep (f := f) (v := v) hn.2 (h.resolve_left fun x => e x.symm)
      rw [e1, dGet_cons, if_neg e]
      simp only [S, List.map_cons, List.sum_cons] at ih ⊢
      rw [ih]
      omega
theorem S_app (f : Int → Int) (d : Dct) (k v : Int) : S f (d ++ [(k, v)]) = S f d + v * f k := by
  simp [S, List.map_append, List.sum_append]
theorem S_put {f : Int → Int} {d : Dct} (k v : Int) (hn : (keys d).Nodup) : S f (dPut d k v) = S f d + (v - (dGet d k).getD 0) * f k := by
  by_cases hk : k ∈ keys d
  · rw [dPut_mem hk, S_rep hn hk]
  · rw [dPut_new hk, S_app, dGet_none hk]
    simp
def stepD (d : Dct) (k : Int) : Dct := dPut d k ((dGet d k).getD 0 + 1)
def cnt (t : Int) (ks : List Int) : Int := (ks.map fun s => if s = t then (1 : Int) else 0).sum
theorem len_put (d : Dct) (k v : Int) : (dPut d k v).length ≤ d.length + 1 := by
  unfold dPut
  split
  · simp
  · simp
theorem fold_ok : ∀ (ks : List Int) (d : Dct) (hn : (keys d).Nodup), (keys (ks.foldl stepD d)).Nodup ∧ (∀ t, (dGet (ks.foldl stepD d) t).getD 0 = (dGet d t).getD 0 + cnt t ks) ∧ (∀ f, S f (ks.foldl stepD d) = S f d + (ks.map f).sum) ∧ (ks.foldl stepD d).length ≤ d.length + ks.length
  | [], d, hn => ⟨hn, fun t => by simp [cnt], fun f => by simp, by simp⟩
  | k :: ks, d, hn => by
    obtain ⟨h1, h2, h3, h4⟩ := fold_ok ks (stepD d k) (nodup_put _ _ hn)
    refine ⟨h1, fun t => ?_, fun f => ?_, ?_⟩
    · rw [List.foldl_cons, h2]
      unfold stepD
      rw [get_put]
      simp only [cnt, List.map_cons, List.sum_cons]
      by_cases e : k = t
      · subst e
        simp
        omega
      · simp [e]
    · rw [List.foldl_cons, h3]
      unfold stepD
      rw [S_put _ _ hn, List.map_cons, List.sum_cons]
      have : (dGet d k).getD 0 + 1 - (dGet d k).getD 0 = 1 := by omega
      rw [this]
      omega
    · rw [List.foldl_cons]
      have := len_put d k ((dGet d k).getD 0 + 1)
      unfold stepD at h4 ⊢
      simp only [List.length_cons]
      omega
theorem foldM_ok {e1 : Int} : ∀ (ys : List Int) (d : Dct) (h : d.length + ys.length ≤ lim), List.foldlM (fun (st2 : Dct) (e2 : Int) => Option.bind (dPutI st2 (e1 + e2) (((dGet st2 (e1 + e2)).getD (0 : Int)) + (1 : Int))) fun v => some v) d ys = some ((ys.map (e1 + ·)).foldl stepD d)
  | [], d, h => rfl
  | y :: ys, d, h => by
    simp only [List.length_cons] at h
    rw [List.foldlM_cons]
    have e : dPutI d (e1 + y) (((dGet d (e1 + y)).getD (0 : Int)) + (1 : Int)) = some (stepD d (e1 + y)) := if_pos (by omega)
    rw [e]
    have hl := len_put d (e1 + y) ((dGet d (e1 + y)).getD 0 + 1)
    exact foldM_ok ys (stepD d (e1 + y)) (by unfold stepD; omega)
theorem foldl_len (ks : List Int) (d : Dct) : (ks.foldl stepD d).length ≤ d.length + ks.length := by
  induction ks generalizing d with
  | nil => simp
  | cons k ks ih =>
    have := ih (stepD d k)
    have := len_put d k ((dGet d k).getD 0 + 1)
    simp only [List.foldl_cons, List.length_cons]
    unfold stepD at *
    omega
theorem foldM2_ok (ys : List Int) : ∀ (xs : List Int) (d : Dct) (h : d.length + xs.length * ys.length ≤ lim), List.foldlM (fun (st : Dct) (e1 : Int) => Option.bind (List.foldlM (fun (st2 : Dct) (e2 : Int) => Option.bind (dPutI st2 (e1 + e2) (((dGet st2 (e1 + e2)).getD (0 : Int)) + (1 : Int))) fun v => some v) st ys) fun s => some s) d xs = some ((xs.flatMap fun e1 => ys.map (e1 + ·)).foldl stepD d)
  | [], d, h => rfl
  | x :: xs, d, h => by
    simp only [List.length_cons, Nat.add_mul] at h
    rw [List.foldlM_cons, foldM_ok ys d (by omega), List.flatMap_cons, List.foldl_append]
    have hl := foldl_len (ys.map (x + ·)) d
    rw [List.length_map] at hl
    exact foldM2_ok ys xs _ (by omega)
def sums (ys : List Int) : List Int := ys.flatMap fun e1 => ys.map (e1 + ·)
theorem sums_len (ys : List Int) : (sums ys).length = ys.length * ys.length := by
  unfold sums
  rw [List.length_flatMap]
  have : ∀ zs : List Int, (zs.map fun a => (ys.map (a + ·)).length).sum = zs.length * ys.length := by
    intro zs
    induction zs with
    | nil => simp
    | cons z zs ih => rw [List.map_cons, List.sum_cons, ih, List.length_map, List.length_cons, Nat.add_mul]; omega
  exact this ys
theorem pairK_ok {ys : List Int} (h : ys.length ≤ 1000) : pairK ys = some ((sums ys).foldl stepD []) := by
  refine foldM2_ok ys ys [] ?_
  have := Nat.mul_le_mul h h
  simp only [List.length_nil]
  unfold lim
  omega
theorem mapM_all {α β : Type} {g : α → Option β} {f : α → β} : ∀ {xs : List α} (h : ∀ x ∈ xs, g x = some (f x)), xs.mapM g = some (xs.map f)
  | [], _ => rfl
  | x :: xs, h => by
    rw [List.mapM_cons, h x (List.mem_cons_self ..), mapM_all fun y hy => h y (List.mem_cons_of_mem _ hy)]
    rfl
theorem mapC_all {α β : Type} {g : α → Option β} {f : α → β} {xs : List α} (hl : xs.length ≤ lim) (h : ∀ x ∈ xs, g x = some (f x)) : mapC xs g = some (xs.map f) := by
  unfold mapC
  rw [if_pos hl, mapM_all h]
theorem cnt_bd (t : Int) : ∀ ks : List Int, 0 ≤ cnt t ks ∧ cnt t ks ≤ ks.length
  | [] => by simp [cnt]
  | k :: ks => by
    obtain ⟨h1, h2⟩ := cnt_bd t ks
    simp only [cnt, List.map_cons, List.sum_cons, List.length_cons] at *
    split <;> omega
theorem mulI_right {i j : Int} (h : j.natAbs < 2 ^ 64) : mulI i j = some (i * j) := by
  unfold mulI mulOk
  rw [if_pos (by simp [h])]
theorem pairs_ok {M : Int} {d : Dct} {g : Int → Int} (hl : d.length ≤ lim) (hg : ∀ t, (dGet d t).getD 0 = g t) (hb : ∀ t, (g t).natAbs < 2 ^ 64) : m__law_pairs M d = some (S (fun s => g (M - s)) d) := by
  unfold m__law_pairs
  rw [mapC_all (f := fun p => p.2 * g (M - p.1)) hl (fun p _ => by rw [hg, mulI_right (hb _)]; rfl)]
  rfl
theorem pairs_count {M : Int} {ys : List Int} (h : ys.length ≤ 1000) : ∃ d, pairK ys = some d ∧ m__law_pairs M d = some (((sums ys).map fun s => cnt (M - s) (sums ys)).sum) := by
  refine ⟨_, pairK_ok h, ?_⟩
  have h2 := Nat.mul_le_mul h h
  obtain ⟨k1, k2, k3, k4⟩ := fold_ok (sums ys) [] (List.nodup_nil)
  rw [sums_len] at k4
  rw [pairs_ok (g := fun t => cnt t (sums ys)) (by simp only [List.length_nil] at k4; unfold lim; omega) (fun t => by rw [k2]; simp [dGet]) (fun t => by
    have := cnt_bd t (sums ys)
    rw [sums_len] at this
    have h3 : (2 : Nat) ^ 64 = 18446744073709551616 := by decide
    omega), k3]
  simp [S]
theorem cnt_filter {t M : Int} (h : t ≤ M) : ∀ ks : List Int, cnt t ks = cnt t (ks.filter fun s => decide (s ≤ M))
  | [] => rfl
  | k :: ks => by
    have ih := cnt_filter h ks
    by_cases e : k ≤ M
    · rw [List.filter_cons_of_pos (by simpa using e)]
      simp only [cnt, List.map_cons, List.sum_cons] at ih ⊢
      rw [ih]
    · rw [List.filter_cons_of_neg (by simpa using e)]
      simp only [cnt, List.map_cons, List.sum_cons] at ih ⊢
      rw [if_neg (by omega), ih]
      omega
theorem cnt_neg {t : Int} (h : t < 0) : ∀ {ks : List Int} (hk : ∀ k ∈ ks, 0 ≤ k), cnt t ks = 0
  | [], _ => rfl
  | k :: ks, hk => by
    have ih := cnt_neg h fun x hx => hk x (List.mem_cons_of_mem _ hx)
    have := hk k (List.mem_cons_self ..)
    simp only [cnt, List.map_cons, List.sum_cons] at ih ⊢
    rw [ih, if_neg (by omega)]
    rfl
theorem sum_filter {M : Int} {f : Int → Int} (h : ∀ s, M < s → f s = 0) : ∀ ks : List Int, (ks.map f).sum = ((ks.filter fun s => decide (s ≤ M)).map f).sum
  | [] => rfl
  | k :: ks => by
    have ih := sum_filter h ks
    by_cases e : k ≤ M
    · rw [List.filter_cons_of_pos (by simpa using e), List.map_cons, List.map_cons, List.sum_cons, List.sum_cons, ih]
    · rw [List.filter_cons_of_neg (by simpa using e), List.map_cons, List.sum_cons, h k (by omega), ih]
      omega
/-- how often four of them sum to M -/
def four (M : Int) (ys : List Int) : Int := (fun fs => (fs.map fun s => cnt (M - s) fs).sum) ((sums ys).filter fun s => decide (s ≤ M))
theorem sums_pos {ys : List Int} (h : ∀ y ∈ ys, 0 ≤ y) : ∀ k ∈ sums ys, 0 ≤ k := by
  intro k hk
  obtain ⟨a, ha, hb⟩ := List.mem_flatMap.mp hk
  obtain ⟨b, hb, e⟩ := List.mem_map.mp hb
  have := h a ha
  have := h b hb
  omega
theorem four_eq {M : Int} {ys : List Int} (h : ∀ y ∈ ys, 0 ≤ y) : ((sums ys).map fun s => cnt (M - s) (sums ys)).sum = four M ys := by
  have hp := sums_pos h
  rw [sum_filter (M := M) fun s hs => cnt_neg (by omega) hp]
  unfold four
  refine congrArg List.sum (List.map_congr_left fun s hs => ?_)
  have h0 : 0 ≤ s := hp s (List.mem_filter.mp hs).1
  exact cnt_filter (by omega) _
theorem pairs_four {M : Int} {ys : List Int} (h : ys.length ≤ 1000) (hp : ∀ y ∈ ys, 0 ≤ y) : ∃ d, pairK ys = some d ∧ m__law_pairs M d = some (four M ys) := by
  obtain ⟨d, h1, h2⟩ := pairs_count (M := M) h
  exact ⟨d, h1, by rw [h2, four_eq hp]⟩
end Lw

end
section
set_option Elab.async false
set_option linter.all false
set_option maxRecDepth 100000
set_option maxHeartbeats 4000000
namespace Lw
open PySem Mini Mir
theorem alike4 (a b : P4) : PySem.W.alike (e4 a) (e4 b) = true := rfl
theorem flat4 (a : P4) : Mini.flat (e4 a) = true := rfl
theorem sortOk4 (xs : List P4) : sortOk (xs.map e4) = true := by
  unfold sortOk
  have h1 : alikes (xs.map e4) = true := by
    unfold alikes
    simp only [List.all_map, List.all_eq_true]
    intro a _
    show (xs.all fun e => PySem.W.alike (e4 a) (e4 e)) = true
    exact List.all_eq_true.mpr fun b _ => alike4 a b
  have h2 : (xs.map e4).all isTup1 = true := by
    simp only [List.all_map, List.all_eq_true]
    intro a _
    rfl
  have h3 : (xs.map e4).all Mini.flat = true := by
    simp only [List.all_map, List.all_eq_true]
    intro a _
    exact flat4 a
  rw [h1, h2, h3]
  rfl
theorem allI4 (x : P4) (xs : List P4) : allI ((x :: xs).map e4) = none := by
  unfold allI
  rw [List.map_cons, List.mapM_cons]
  rfl
theorem sort4 (x : P4) (xs : List P4) : sortC e4 (x :: xs) = some (ms (fun a b => leD (e4 a) (e4 b)) (x :: xs).length (x :: xs)) := by
  unfold sortC
  rw [allI4, sortOk4, ms_self]
  rfl
/-- sorted, as the kernel does it -/
def sort4K : List P4 → Option (List P4)
  | [] => none
  | x :: xs => some (ms (fun a b => leD (e4 a) (e4 b)) (x :: xs).length (x :: xs))
theorem sort4K_eq {xs zs : List P4} (h : sort4K xs = some zs) : sortC e4 xs = some zs := by
  cases xs with
  | nil => cases h
  | cons x xs => rw [sort4]; exact h
end Lw

end
section
set_option Elab.async false
set_option linter.all false
set_option maxRecDepth 100000
set_option maxHeartbeats 4000000
/-! k71: the first part, checked by the kernel for each of the fourteen numbers. -/
namespace Lw
open PySem Mini Mir
def quadK (m : Int) : Option (List P4) := (rng3I (1 : Int) ((2 : Int) * m) (2 : Int)).bind fun v1 => (List.foldlM (m__law_quadruples_0 m) [] v1).bind fun s2 => (sort4K s2).bind fun v11 => (filC v11 (fun x_3 => some (decide ((Int.fmod x_3.2.2.2 (2 : Int)) = (1 : Int)))) (fun x_3 => some x_3)).bind fun v => some v
def oddqK (m : Int) : Option (List P4) := (rng3I (1 : Int) ((2 : Int) * m) (2 : Int)).bind fun v1 => (List.foldlM (m_odd_quadruples_0 m) [] v1).bind fun s2 => (sort4K s2).bind fun v => some v
theorem quadK_ok {m : Int} {v : List P4} (h : quadK m = some v) : m__law_quadruples m = some v := by
  unfold quadK at h
  obtain ⟨v1, h1, h⟩ := Mir.bindS h
  obtain ⟨s2, h2, h⟩ := Mir.bindS h
  obtain ⟨v11, h3, h⟩ := Mir.bindS h
  unfold m__law_quadruples
  rw [h1, Option.bind_some, h2, Option.bind_some, sort4K_eq h3, Option.bind_some]
  exact h
theorem oddqK_ok {m : Int} {v : List P4} (h : oddqK m = some v) : m_odd_quadruples m = some v := by
  unfold oddqK at h
  obtain ⟨v1, h1, h⟩ := Mir.bindS h
  obtain ⟨s2, h2, h⟩ := Mir.bindS h
  obtain ⟨v11, h3, h⟩ := Mir.bindS h
  unfold m_odd_quadruples
  rw [h1, Option.bind_some, h2, Option.bind_some, sort4K_eq h3, Option.bind_some]
  exact h
def chkB (m : Int) : Bool :=
  match quadK m, divsK m, oddK m with
  | some v3, some v6, some v31 => decide (oddqK m = some v3) && shows (eT e4 v3) && decide (m_divisors_of m = some v6) && shows (eT PyData.int v6) && v3.all (sgnK v3) &&
    (match mapC v3 (fun x => Option.bind (m__law_sign x) fun v => some v), mapC v3 (fun x => Option.bind (m_quadruple_sign x) fun v => some v) with
    | some v27, some w27 => decide (w27.sum = v27.sum) && shows (PyData.int v27.sum)
    | _, _ => false) && (Nat.ble v31.length 1000 && v31.all (fun y => decide (0 ≤ y))) && (decide (m_odd_tuples m = some (four (4 * m) v31)) && shows (PyData.int (four (4 * m) v31)))
  | _, _, _ => false
theorem lawA_ok2 {m : Int} (h : chkB m = true) : ∃ (v3 : List P4) (v6 v31 : List Int) (s3 : List (Int × Int)), ∀ ns v2 κ, lawA ns v2 m κ = κ v3 v6 v31 s3 := by
  unfold chkB at h
  cases h1 : quadK m with
  | none => rw [h1] at h; cases h
  | some v3 =>
  cases h2 : divsK m with
  | none => rw [h1, h2] at h; cases h
  | some v6 =>
  cases h3 : oddK m with
  | none => rw [h1, h2, h3] at h; cases h
  | some v31 =>
  rw [h1, h2, h3] at h
  cases h4 : mapC v3 (fun x => Option.bind (m__law_sign x) fun v => some v) with
  | none => simp only [h4, Bool.and_false, Bool.false_and, Bool.false_eq_true] at h
  | some v27 =>
  cases h5 : mapC v3 (fun x => Option.bind (m_quadruple_sign x) fun v => some v) with
  | none => simp only [h4, h5, Bool.and_false, Bool.false_and, Bool.false_eq_true] at h
  | some w27 =>
  simp only [h4, h5, Bool.and_eq_true, decide_eq_true_eq] at h
  obtain ⟨⟨⟨⟨⟨⟨⟨a1, a2⟩, a3⟩, a4⟩, a5⟩, a6, a7⟩, a8, a9⟩, a10, a11⟩ := h
  obtain ⟨s3, c1, c2⟩ := pairs_four (M := 4 * m) (ys := v31) (Nat.le_of_ble_eq_true a8) (fun y hy => of_decide_eq_true (List.all_eq_true.mp a9 y hy))
  refine ⟨v3, v6, v31, s3, fun ns v2 κ => ?_⟩
  have b0 := quadK_ok h1
  have a1 := oddqK_ok a1
  have b1 : ∀ st, (Option.bind (rngI (1 : Int) (m + (1 : Int))) fun v_4 => Option.bind (filC v_4 (fun x_1 => Option.bind (modI m x_1) fun v_5 => some (decide (v_5 = (0 : Int)))) (fun x_1 => some x_1)) st : Option Bool) = st v6 := by
    intro st
    rw [← Option.bind_assoc]
    show (divsK m).bind st = _
    rw [h2]
    rfl
  have b2 : ∀ st, (Option.bind (rng3I (1 : Int) (((2 : Int) * m) + (2 : Int)) (2 : Int)) fun v_29 => Option.bind (mapC v_29 (fun x_3 => Option.bind (mulI x_3 x_3) fun v_30 => some v_30)) st : Option Bool) = st v31 := by
    intro st
    rw [← Option.bind_assoc]
    show (oddK m).bind st = _
    rw [h3]
    rfl
  have b3 : List.foldlM (m_law_1 ns v2 m v3 v6 v31) [] v31 = some s3 := c1
  have b4 : forR (m_law_0 ns v2 m v3 v6) v3 () = some (.inl ()) := forR_all fun x hx => law0_ok (List.all_eq_true.mp a5 x hx)
  have b5 : m_signs_added m = some v27.sum := by
    unfold m_signs_added
    rw [a1, Option.bind_some, h5, Option.bind_some, a6]
  unfold lawA
  simp only [b0, Option.bind_some, b1, a1, reprC_some a2, a3, reprC_some a4, decide_true, Bool.not_true, Bool.false_eq_true, if_false, b4, b5, reprC_some a7, h4, b2, b3, a10, c2, reprC_some a11]
end Lw

end
section
set_option Elab.async false
set_option linter.all false
set_option maxRecDepth 100000
set_option maxHeartbeats 4000000
/-! k71: the first part for the fourteen numbers. -/
namespace Lw
open PySem Mini Mir
theorem xA0 : chkB 1 = true := by decide +kernel
theorem xA1 : chkB 3 = true := by decide +kernel
theorem xA2 : chkB 5 = true := by decide +kernel
theorem xA3 : chkB 7 = true := by decide +kernel
theorem xA4 : chkB 9 = true := by decide +kernel
theorem xA5 : chkB 11 = true := by decide +kernel
theorem xA6 : chkB 13 = true := by decide +kernel
theorem xA7 : chkB 15 = true := by decide +kernel
theorem xA8 : chkB 17 = true := by decide +kernel
theorem xA9 : chkB 19 = true := by decide +kernel
theorem xA10 : chkB 21 = true := by decide +kernel
theorem xA11 : chkB 23 = true := by decide +kernel
theorem xA12 : chkB 25 = true := by decide +kernel
theorem xA13 : chkB 27 = true := by decide +kernel
theorem xA {v : Int} (h0 : 0 ≤ v) (h1 : v < 14) : chkB (1 + 2 * v) = true := by
  have : v = 0 ∨ v = 1 ∨ v = 2 ∨ v = 3 ∨ v = 4 ∨ v = 5 ∨ v = 6 ∨ v = 7 ∨ v = 8 ∨ v = 9 ∨ v = 10 ∨ v = 11 ∨ v = 12 ∨ v = 13 := by omega
  rcases this with rfl | rfl | rfl | rfl | rfl | rfl | rfl | rfl | rfl | rfl | rfl | rfl | rfl | rfl
  · exact xA0
  · exact xA1
  · exact xA2
  · exact xA3
  · exact xA4
  · exact xA5
  · exact xA6
  · exact xA7
  · exact xA8
  · exact xA9
  · exact xA10
  · exact xA11
  · exact xA12
  · exact xA13
end Lw

end
section
set_option Elab.async false
set_option linter.all false
set_option maxRecDepth 100000
set_option maxHeartbeats 4000000
/-! k71: the second part: sums of two and of four squares below 200. -/
namespace Lw
open PySem Mini Mir
def TT : List Int := [1, 4, 4, 0, 4, 8, 0, 0, 4, 4, 8, 0, 0, 8, 0, 0, 4, 8, 4, 0, 8, 0, 0, 0, 0, 12, 8, 0, 0, 8, 0, 0, 4, 0, 8, 0, 4, 8, 0, 0, 8, 8, 0, 0, 0, 8, 0, 0, 0, 4, 12, 0, 8, 8, 0, 0, 0, 0, 8, 0, 0, 8, 0, 0, 4, 16, 0, 0, 8, 0, 0, 0, 4, 8, 8, 0, 0, 0, 0, 0, 8, 4, 8, 0, 0, 16, 0, 0, 0, 8, 8, 0, 0, 0, 0, 0, 0, 8, 4, 0, 12, 8, 0, 0, 8, 0, 8, 0, 0, 8, 0, 0, 0, 8, 0, 0, 8, 8, 0, 0, 0, 4, 8, 0, 0, 16, 0, 0, 4, 0, 16, 0, 0, 0, 0, 0, 8, 8, 0, 0, 0, 0, 0, 0, 4, 16, 8, 0, 8, 8, 0, 0, 0, 8, 0, 0, 0, 8, 0, 0, 8, 0, 4, 0, 8, 0, 0, 0, 0, 12, 16, 0, 0, 8, 0, 0, 0, 0, 8, 0, 8, 8, 0, 0, 0, 16, 0, 0, 0, 0, 0, 0, 0, 8, 8, 0, 4, 8, 0, 0]
def tt (n : Nat) : Int := TT.getD n 0
def SQ : Dct := [(0, 1), (1, 2), (4, 2), (9, 2), (16, 2), (25, 2), (36, 2), (49, 2), (64, 2), (81, 2), (100, 2), (121, 2), (144, 2), (169, 2), (196, 2)]
def conv (n : Nat) : Int := ((List.range (n + 1)).map fun s => tt s * tt (n - s)).sum
theorem tt_bd (n : Nat) : (tt n).natAbs < 2 ^ 64 := by
  by_cases h : n < 200
  · have k : (List.range 200).all (fun n => decide ((tt n).natAbs < 2 ^ 64)) = true := by decide +kernel
    exact of_decide_eq_true (List.all_eq_true.mp k n (List.mem_range.mpr h))
  · have : tt n = 0 := by
      unfold tt
      have hl : TT.length = 200 := rfl
      rw [List.getD_eq_getElem?_getD, List.getElem?_eq_none (by omega)]
      rfl
    rw [this]
    decide
theorem sq_ok (a : List Int) (b : Int × Src) (c : Int) (d : List P4) (e f : List Int) (g : Dct) : List.foldlM (m_law_3 a b c d e f g) [((0 : Int), (1 : Int))] (rng 1 15) = some SQ := by
  show List.foldlM (fun (st3 : Dct) (e3 : Int) => Option.bind (mulI e3 e3) fun v_39 => Option.bind (dPutI st3 v_39 (2 : Int)) fun v_40 => some v_40) [((0 : Int), (1 : Int))] (rng 1 15) = some SQ
  decide +kernel
theorem tt_all : (List.range 200).all (fun s => decide (m__law_pairs (s : Nat) SQ = some (tt s))) = true := by decide +kernel
theorem tt_ok {n : Nat} (h : n < 200) : m__law_pairs (n : Nat) SQ = some (tt n) := of_decide_eq_true (List.all_eq_true.mp tt_all n (List.mem_range.mpr h))
def TW (n : Nat) : Dct := (List.range n).map fun s : Nat => (((s : Nat) : Int), tt s)
theorem TW_succ (n : Nat) : TW (n + 1) = TW n ++ [((n : Int), tt n)] := by
  unfold TW
  rw [List.range_succ, List.map_append]
  rfl
theorem TW_len (n : Nat) : (TW n).length = n := by simp [TW]
theorem TW_keys (n : Nat) (k : Int) (h : k ∈ keys (TW n)) : 0 ≤ k ∧ k < n := by
  unfold keys TW at h
  rw [List.map_map] at h
  obtain ⟨i, hi, e⟩ := List.mem_map.mp h
  have := List.mem_range.mp hi
  have e : (i : Int) = k := e
  omega
theorem TW_get (n : Nat) (t : Int) : dGet (TW n) t = if 0 ≤ t ∧ t < n then some (tt t.toNat) else none := by
  induction n with
  | zero =>
    rw [if_neg (by omega)]
    rfl
  | succ n ih =>
    rw [TW_succ, get_app (fun h => by have := TW_keys n _ h; omega), ih]
    by_cases e : (n : Int) = t
    · subst e
      rw [if_pos rfl, if_pos ⟨by omega, by omega⟩]
      rfl
    · rw [if_neg e]
      by_cases h : 0 ≤ t ∧ t < n
      · rw [if_pos h, if_pos ⟨h.1, by omega⟩]
      · rw [if_neg h, if_neg (by omega)]
theorem tw_ok (a : List Int) (b : Int × Src) (c : Int) (d : List P4) (e f : List Int) (g : Dct) : ∀ n : Nat, n ≤ 200 → List.foldlM (m_law_4 a b c d e f g SQ) [] ((List.range n).map fun i => (0 : Int) + (i : Nat)) = some (TW n)
  | 0, _ => rfl
  | n + 1, h => by
    rw [List.range_succ, List.map_append, List.foldlM_append, tw_ok a b c d e f g n (by omega)]
    have e1 : m_law_4 a b c d e f g SQ (TW n) (0 + (n : Nat)) = some (TW (n + 1)) := by
      unfold m_law_4
      rw [Int.zero_add, tt_ok (by omega), Option.bind_some]
      have e2 : dPutI (TW n) (n : Int) (tt n) = some (TW (n + 1)) := by
        unfold dPutI
        rw [if_pos (by rw [TW_len]; unfold lim; omega), dPut_new (fun h => by have := TW_keys n _ h; omega), TW_succ]
      rw [e2]
      rfl
    show Option.bind (some (TW n)) (fun s => List.foldlM (m_law_4 a b c d e f g SQ) s [0 + (n : Int)]) = _
    rw [Option.bind_some, List.foldlM_cons, e1]
    rfl
theorem conv_ok {n : Nat} (h : n < 200) : m__law_pairs (n : Nat) (TW (n + 1)) = some (conv n) := by
  rw [pairs_ok (g := fun t => if 0 ≤ t ∧ t < ((n + 1 : Nat) : Int) then tt t.toNat else 0) (by rw [TW_len]; unfold lim; omega) (fun t => by
    rw [TW_get]
    by_cases h : 0 ≤ t ∧ t < ((n + 1 : Nat) : Int)
    · rw [if_pos h, if_pos h]; rfl
    · rw [if_neg h, if_neg h]; rfl) (fun t => by
    by_cases h : 0 ≤ t ∧ t < ((n + 1 : Nat) : Int)
    · simp only [if_pos h]; exact tt_bd _
    · simp only [if_neg h]; decide)]
  unfold S TW conv
  rw [List.map_map]
  refine congrArg (fun l => some (List.sum l)) (List.map_congr_left fun s hs => ?_)
  have := List.mem_range.mp hs
  show tt s * (if 0 ≤ (n : Int) - s ∧ (n : Int) - s < ((n + 1 : Nat) : Int) then tt ((n : Int) - s).toNat else 0) = tt s * tt (n - s)
  rw [if_pos (by omega)]
  have : ((n : Int) - s).toNat = n - s := by omega
  rw [this]
def chkK (n : Nat) : Bool := decide (m_count_two_squares (n : Nat) = some (tt n)) && decide (m_count_four_squares (n : Nat) = some (conv n)) && shows (eL PyData.int [tt n, conv n]) &&
  (n == 0 || (decide (m_has_two_squares (n : Nat) = some (decide ((0 : Int) < tt n))) && shows (PyData.bool (decide ((0 : Int) < tt n))) && match m_divisors_of (n : Nat) with
    | some ds => decide (divsK (n : Nat) = some ds) && shows (eT PyData.int ds)
    | none => false))
theorem xK0 : ((List.range 25).map (· + 0)).all chkK = true := by decide +kernel
theorem xK1 : ((List.range 25).map (· + 25)).all chkK = true := by decide +kernel
theorem xK2 : ((List.range 25).map (· + 50)).all chkK = true := by decide +kernel
theorem xK3 : ((List.range 25).map (· + 75)).all chkK = true := by decide +kernel
theorem xK4 : ((List.range 25).map (· + 100)).all chkK = true := by decide +kernel
theorem xK5 : ((List.range 25).map (· + 125)).all chkK = true := by decide +kernel
theorem xK6 : ((List.range 25).map (· + 150)).all chkK = true := by decide +kernel
theorem xK7 : ((List.range 25).map (· + 175)).all chkK = true := by decide +kernel
theorem xK {n : Nat} (h : n < 200) : chkK n = true := by
  have k : ∀ q, n < q + 25 → q ≤ n → ((List.range 25).map (· + q)).all chkK = true → chkK n = true := fun q h1 h2 h3 => List.all_eq_true.mp h3 n (List.mem_map.mpr ⟨n - q, List.mem_range.mpr (by omega), by omega⟩)
  by_cases h0 : n < 25
  · exact k 0 h0 (by omega) xK0
  by_cases h1 : n < 50
  · exact k 25 h1 (by omega) xK1
  by_cases h2 : n < 75
  · exact k 50 h2 (by omega) xK2
  by_cases h3 : n < 100
  · exact k 75 h3 (by omega) xK3
  by_cases h4 : n < 125
  · exact k 100 h4 (by omega) xK4
  by_cases h5 : n < 150
  · exact k 125 h5 (by omega) xK5
  by_cases h6 : n < 175
  · exact k 150 h6 (by omega) xK6
  exact k 175 h (by omega) xK7
theorem lawB_ok {ns : List Int} {n : Nat} {s : Src} {m : Int} {v3 : List P4} {v6 v31 : List Int} {s3 : Dct} {κ : Option Bool} (h : n < 200) : lawB ns ((n : Int), s) m v3 v6 v31 s3 κ = κ := by
  have hk := xK h
  unfold chkK at hk
  simp only [Bool.and_eq_true, decide_eq_true_eq] at hk
  obtain ⟨⟨⟨a1, a2⟩, a3⟩, a4⟩ := hk
  have b1 : rngI (1 : Int) (15 : Int) = some (rng 1 15) := rfl
  have b2 : rng1I ((n : Int) + 1) = some ((List.range (n + 1)).map fun i => (0 : Int) + (i : Nat)) := by
    unfold rng1I rng bnd62
    rw [if_pos (by simp; omega)]
    have : ((n : Int) + 1 - 0).toNat = n + 1 := by omega
    rw [this]
  have b3 : dGet (TW (n + 1)) (n : Int) = some (tt n) := by
    rw [TW_get, if_pos ⟨by omega, by omega⟩]
    rfl
  have b4 := tw_ok ns ((n : Int), s) m v3 v6 v31 s3 (n + 1) (by omega)
  have b5 : ∀ st, (Option.bind (rngI (1 : Int) ((n : Int) + (1 : Int))) fun v_4 => Option.bind (filC v_4 (fun x_1 => Option.bind (modI (n : Int) x_1) fun v_5 => some (decide (v_5 = (0 : Int)))) (fun x_1 => some x_1)) st : Option Bool) = (divsK (n : Int)).bind st := by
    intro st
    rw [← Option.bind_assoc]
    rfl
  unfold lawB
  simp only [b1, b2, Option.bind_some, sq_ok, b4, a1, a2, b3, conv_ok h, reprC_some a3, decide_true, Bool.not_true, Bool.false_eq_true, if_false]
  by_cases h0 : n = 0
  · subst h0
    simp
  · have hp : (0 : Int) < (n : Int) := by omega
    simp only [Bool.or_eq_true, Bool.and_eq_true, beq_iff_eq, h0, false_or, decide_eq_true_eq] at a4
    obtain ⟨⟨c1, c2⟩, c3⟩ := a4
    cases hd : m_divisors_of (n : Int) with
    | none => rw [hd] at c3; cases c3
    | some ds =>
      simp only [hd, Bool.and_eq_true, decide_eq_true_eq] at c3
      simp only [decide_eq_true hp, if_true, c1, Option.bind_some, reprC_some c2, decide_true, Bool.not_true, Bool.false_eq_true, if_false, hd, reprC_some c3.2, b5, c3.1]
end Lw

end
section
set_option Elab.async false
set_option linter.all false
set_option maxRecDepth 100000
set_option maxHeartbeats 4000000
/-! k71: the draws and the third part. -/
namespace Lw
open PySem Mini Mir
theorem fmod_rng (a : Int) {n : Int} (h : 0 < n) : 0 ≤ a.fmod n ∧ a.fmod n < n := ⟨Int.fmod_nonneg_of_pos a h, Int.fmod_lt_of_pos a h⟩
theorem modI_ok (a : Int) {n : Int} (h : 0 < n) : modI a n = some (a.fmod n) := if_pos (by omega)
theorem fdivI_ok (a : Int) {n : Int} (h : 0 < n) (hn : n ≤ 1000) : fdivI a n = some (a.fdiv n) := by
  unfold fdivI divOk
  rw [if_pos]
  have h1 : n ≠ 0 := by omega
  have h2 : n.natAbs.log2 < 9000 := by
    refine (Nat.log2_lt (by omega)).mpr (Nat.lt_of_lt_of_le (m := 2 ^ 10) (show n.natAbs < 1024 by omega) (Nat.pow_le_pow_right (by decide) (by decide)))
  rw [decide_eq_true h1, decide_eq_true h2]
  rfl
theorem pick_ok (s : Src) {n : Int} (h2 : 2 ≤ n) (hn : n ≤ 1000) : ∃ v s', m__law_pick s n = some (v, s') ∧ 0 ≤ v ∧ v < n := by
  unfold m__law_pick
  rw [if_neg (by rw [decide_eq_true_eq]; omega), Option.bind_some]
  by_cases h : decide ((1 : Int) < (pullS s).2.1) = true
  · rw [if_pos h, fdivI_ok _ (by omega) hn, modI_ok _ (by omega)]
    exact ⟨_, _, rfl, fmod_rng _ (by omega)⟩
  · rw [if_neg h]
    simp only [Option.bind_some]
    have hb := fmod_rng ((pullS s).2.2.1 + ((pullS s).2.2.2 + 1) * 104729) (n := 998244353) (by decide)
    rw [mulI_right (by
      have h3 : (2 : Nat) ^ 64 = 18446744073709551616 := by decide
      omega), Option.bind_some, modI_ok _ (by omega)]
    exact ⟨_, _, rfl, fmod_rng _ (by omega)⟩
theorem foldlM_total {σ α : Type} {g : σ → α → Option σ} (h : ∀ s x, ∃ s', g s x = some s') : ∀ (xs : List α) (s : σ), ∃ s', List.foldlM g s xs = some s'
  | [], s => ⟨s, rfl⟩
  | x :: xs, s => by
    obtain ⟨s1, h1⟩ := h s x
    obtain ⟨s2, h2⟩ := foldlM_total h xs s1
    exact ⟨s2, by rw [List.foldlM_cons, h1]; exact h2⟩
theorem source_ok {ns : List Int} (h : ns.length ≤ 63) : ∃ s, m__law_source ns = some s := by
  obtain ⟨s, h1⟩ := foldlM_total (g := m__law_source_0 ns) (fun s x => ⟨_, rfl⟩) ns 11
  unfold m__law_source
  rw [h1, Option.bind_some, mapC_all (f := absI) (by unfold lim; omega) (fun x _ => rfl)]
  exact ⟨_, rfl⟩
/-! ### texts of four integers -/
theorem shown_len {i : Int} (h : i.natAbs < 10 ^ 20) : (PyData.shown (.int i)).length ≤ 100 := by
  have h1 := int_text_length_le10 (a := i) (k := 20) (by decide) h
  have h2 : (PyData.shown (.int i)).length = (toString i).length := by
    show (Str.ofString (toString i)).length = _
    exact ofString_length _
  omega
theorem log_int {a : Int} (h : a.natAbs ≤ 1000000) : a.natAbs.log2 < 1920 := by
  by_cases h0 : a.natAbs = 0
  · rw [h0]; decide
  · exact (Nat.log2_lt h0).mpr (Nat.lt_of_le_of_lt h (by decide))
theorem shows4 {a b c d : Int} (ha : a.natAbs ≤ 1000000) (hb : b.natAbs ≤ 1000000) (hc : c.natAbs ≤ 1000000) (hd : d.natAbs ≤ 1000000) : shows (e4 (a, b, c, d)) = true := by
  have l : ∀ x : Int, x.natAbs ≤ 1000000 → decide ((PyData.shown (.int x)).length ≤ 100) = true := fun x hx => decide_eq_true (shown_len (Nat.lt_of_le_of_lt hx (by decide)))
  have g : ∀ x : Int, x.natAbs ≤ 1000000 → decide (x.natAbs.log2 < 1920) = true := fun x hx => decide_eq_true (log_int hx)
  unfold shows
  have h1 : (e4 (a, b, c, d)).showable = true := by
    show (decide (a.natAbs.log2 < 1920) && (decide (b.natAbs.log2 < 1920) && (decide (c.natAbs.log2 < 1920) && (decide (d.natAbs.log2 < 1920) && true)))) = true
    rw [g a ha, g b hb, g c hc, g d hd]
    rfl
  have h2 : (e4 (a, b, c, d)).leavesShort 100 = true := by
    show (decide ((PyData.shown (.int a)).length ≤ 100) && (decide ((PyData.shown (.int b)).length ≤ 100) && (decide ((PyData.shown (.int c)).length ≤ 100) && (decide ((PyData.shown (.int d)).length ≤ 100) && true)))) = true
    rw [l a ha, l b hb, l c hc, l d hd]
    rfl
  have h3 : (e4 (a, b, c, d)).bulk = 4 := rfl
  rw [flat4, h1, h2, h3]
  rfl
theorem mapS4 {s : Src} : ∃ x y z w s', Mir.mapS [(0 : Int), 1, 2, 3] (fun z_1 x_6 => Option.bind (m__law_pick z_1 (200 : Int)) fun v_63 => some ((v_63.1 - (100 : Int)), v_63.2)) s = some ([x, y, z, w], s') ∧ (-100 ≤ x ∧ x < 100) ∧ (-100 ≤ y ∧ y < 100) ∧ (-100 ≤ z ∧ z < 100) ∧ (-100 ≤ w ∧ w < 100) := by
  obtain ⟨x, s1, h1, b1⟩ := pick_ok s (n := 200) (by decide) (by decide)
  obtain ⟨y, s2, h2, b2⟩ := pick_ok s1 (n := 200) (by decide) (by decide)
  obtain ⟨z, s3, h3, b3⟩ := pick_ok s2 (n := 200) (by decide) (by decide)
  obtain ⟨w, s4, h4, b4⟩ := pick_ok s3 (n := 200) (by decide) (by decide)
  refine ⟨x - 100, y - 100, z - 100, w - 100, s4, ?_, by omega, by omega, by omega, by omega⟩
  unfold Mir.mapS
  rw [if_pos (by decide)]
  simp only [Mir.mapS.go, h1, h2, h3, h4, Option.bind_some, Option.map_some]
theorem fm2 (a : Int) : a.fmod 2 = a % 2 := Int.fmod_eq_emod_of_nonneg a (by decide)
theorem fd2 (a : Int) : a.fdiv 2 = a / 2 := Int.fdiv_eq_ediv_of_nonneg a (by decide)
theorem halved_doubled (x y z w : Int) : m_halved (x + y, x - y, z + w, z - w) = some (some (x, y, z, w)) := by
  unfold m_halved
  simp only [fm2, fd2]
  have e1 : x + y + (x - y) = 2 * x := by omega
  have e2 : z + w + (z - w) = 2 * z := by omega
  have e3 : x + y - (x - y) = 2 * y := by omega
  have e4 : z + w - (z - w) = 2 * w := by omega
  rw [e1, e2, e3, e4, if_neg (by rw [decide_eq_true_eq]; omega), if_neg (by rw [decide_eq_true_eq]; omega)]
  have f1 : 2 * x / 2 = x := by omega
  have f2 : 2 * y / 2 = y := by omega
  have f3 : 2 * z / 2 = z := by omega
  have f4 : 2 * w / 2 = w := by omega
  rw [f1, f2, f3, f4]
theorem last_ok (x y z w : Int) : ∃ o, m_halved (x, y, z, w) = some o ∧ o.isSome = (decide ((Int.fmod (x - y) (2 : Int)) = (0 : Int)) && decide ((Int.fmod (z - w) (2 : Int)) = (0 : Int))) ∧ ∀ p, o = some p → m_doubled p = some (x, y, z, w) := by
  unfold m_halved
  simp only [fm2, fd2]
  by_cases h1 : (x + y) % 2 = 1
  · rw [if_pos (by rw [decide_eq_true_eq]; exact h1)]
    refine ⟨none, rfl, ?_, fun p h => by cases h⟩
    have : ¬ (x - y) % 2 = 0 := by omega
    rw [decide_eq_false this]
    rfl
  · rw [if_neg (by rw [decide_eq_true_eq]; exact h1)]
    by_cases h2 : (z + w) % 2 = 1
    · rw [if_pos (by rw [decide_eq_true_eq]; exact h2)]
      refine ⟨none, rfl, ?_, fun p h => by cases h⟩
      have : ¬ (z - w) % 2 = 0 := by omega
      rw [decide_eq_false this, Bool.and_false]
      rfl
    · rw [if_neg (by rw [decide_eq_true_eq]; exact h2)]
      refine ⟨_, rfl, ?_, fun p h => ?_⟩
      · rw [decide_eq_true (by omega : (x - y) % 2 = 0), decide_eq_true (by omega : (z - w) % 2 = 0)]
        rfl
      · cases h
        unfold m_doubled
        have a1 : (x + y) / 2 + (x - y) / 2 = x := by omega
        have a2 : (x + y) / 2 - (x - y) / 2 = y := by omega
        have a3 : (z + w) / 2 + (z - w) / 2 = z := by omega
        have a4 : (z + w) / 2 - (z - w) / 2 = w := by omega
        simp only [a1, a2, a3, a4]
theorem sqs_ok {a b c d : Int} (ha : a.natAbs ≤ 1000000) (hb : b.natAbs ≤ 1000000) (hc : c.natAbs ≤ 1000000) (hd : d.natAbs ≤ 1000000) : mapC [a, b, c, d] (fun x_7 => Option.bind (mulI x_7 x_7) fun v_73 => some v_73) = some [a * a, b * b, c * c, d * d] := by
  have k : ∀ x : Int, x.natAbs ≤ 1000000 → mulI x x = some (x * x) := fun x hx => mulI_right (Nat.lt_of_le_of_lt hx (by decide))
  rw [mapC_all (f := fun x => x * x) (by unfold lim; simp) (fun x hx => by
    rw [k x (by
      simp only [List.mem_cons, List.not_mem_nil, or_false] at hx
      rcases hx with rfl | rfl | rfl | rfl <;> assumption)]
    rfl)]
  rfl
theorem lawC_ok (v : Int × Src) : lawC v = some true := by
  obtain ⟨x, y, z, w, s', h1, hx, hy, hz, hw⟩ := mapS4 (s := v.2)
  unfold lawC
  have b0 : rng1I (4 : Int) = some [0, 1, 2, 3] := by decide +kernel
  have b1 : toP4 [x, y, z, w] = some (x, y, z, w) := rfl
  have b2 : m_doubled (x, y, z, w) = some (x + y, x - y, z + w, z - w) := rfl
  have b3 : reprC (eP4 PyData.int PyData.int PyData.int PyData.int (x + y, x - y, z + w, z - w)) = _ := reprC_some (shows4 (by omega) (by omega) (by omega) (by omega))
  have b4 := sqs_ok (a := x + y) (b := x - y) (c := z + w) (d := z - w) (by omega) (by omega) (by omega) (by omega)
  have b5 := sqs_ok (a := x) (b := y) (c := z) (d := w) (by omega) (by omega) (by omega) (by omega)
  obtain ⟨o, c1, c2, c3⟩ := last_ok x y z w
  have b6 : ([(x + y) * (x + y), (x - y) * (x - y), (z + w) * (z + w), (z - w) * (z - w)] : List Int).sum = 2 * ([x * x, y * y, z * z, w * w] : List Int).sum := by
    simp only [List.sum_cons, List.sum_nil]
    grind
  simp only [b0, Option.bind_some, h1, b1, b2, b3, decide_true, Bool.not_true, Bool.false_eq_true, if_false, halved_doubled, b4, b5, b6, c1, c2, if_true]
  cases o with
  | none => rfl
  | some p =>
    have := c3 p rfl
    simp only [Option.isNone_some, Bool.false_eq_true, if_false, Option.bind_some, this, decide_true]
theorem law_ok {ns : List Int} (h : ns.length ≤ 63) : m_law ns = some true := by
  obtain ⟨s, h1⟩ := source_ok h
  obtain ⟨v, s2, h2, h3, h4⟩ := pick_ok s (n := 14) (by decide) (by decide)
  obtain ⟨v3, v6, v31, s3, h5⟩ := lawA_ok2 (xA h3 h4)
  obtain ⟨k, s4, h6, h7, h8⟩ := pick_ok s2 (n := 200) (by decide) (by decide)
  rw [law_cut, h1, Option.bind_some, h2, Option.bind_some, h5, h6, Option.bind_some]
  obtain ⟨n, rfl⟩ := Int.eq_ofNat_of_zero_le h7
  rw [lawB_ok (by omega), lawC_ok]
end Lw

end
section
set_option Elab.async false
set_option linter.all false
set_option maxRecDepth 100000
set_option maxHeartbeats 4000000
/-! k71: the row. -/
namespace K71
open PySem Mini Mir
theorem law_holds (ns : List Int) (h : ns.length ≤ 63) : ∃ os, K71.cl 12 "law" [(.src, .list (ns.map .int))] = some ((.sh, .bool true), os) := ⟨_, w_law 6 ns true (Lw.law_ok h)⟩
end K71
theorem PySem.Challenge.cw_leastwholes_k71_whole_squares_and_quadru_holds : PySem.Challenge.rw_leastwholes_k71_whole_squares_and_quadru.Holds := by
  exact K71.law_of K71.law_holds

end
