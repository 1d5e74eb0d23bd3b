import PyProof.Rows.All
import Wide.All
import OpenK.AllK
import Wide.FinOn
import KE.KStateDown
import KE.KRevSl
import Lean
import HandS.ForMost
import HandS.Defaults
import HandS.Exc
import HandS.Wide
import HandS.Walk
import HandS.Zip
import HandS.Flow
import HandS.Style
import HandS.Star
import HandS.Deep
import HandS.SortOrd
import HandS.Head0
import HandS.Head1
import HandS.Head2
import HandS.HeadEnd
import HandS.HeadHook1
import HandS.HeadHook2
import HandS.TupAny
import HandS.TupMul
import HandS.Conv
import HandS.SortInts
import HandS.More
import HandS.RaiseMore
import KE.GoesMore
import HandS.DictComp
import PySem.Challenge.RW_leastwholes_k53_whole_polynomials_and_ro
section
set_option Elab.async false
set_option linter.all false
set_option maxRecDepth 100000
set_option maxHeartbeats 4000000
/-! Mini, part 1: the small language and what it means on plain data. -/
namespace Mini
open PySem
abbrev Dt := PyData

/-- how a value stands: shared (may never be changed), owned (nobody else holds it), the draws' own record, or borrowed from a slot -/
inductive Fl where
  | sh | own | src | bo (i : Nat)
  deriving DecidableEq
inductive Bo where | add | sub | mul | fdiv | mod | pow | shl
  deriving DecidableEq
inductive Co where | lt | le | gt | ge | eq | ne | isN | notN | inn | nin
  deriving DecidableEq
inductive B1 where | len | abs | tuple | list | sum | sorted | int | str | repr | all | any | max | min
  deriving DecidableEq
inductive B2 where | max | min
  deriving DecidableEq
inductive M1 where | index | count | get
  deriving DecidableEq
mutual
inductive Pat where
  | nm (i : Nat) | tp (ps : Pats)
inductive Pats where
  | nil | cons (p : Pat) (r : Pats)
end
mutual
inductive E where
  | v (i : Nat) | sh (i : Nat) | mv (i : Nat) | gl (x : Str) (d : Dt)
  | int (i : Int) | str (s : Str) | bl (b : Bool) | non
  | tup (es : Es) | lst (es : Es)
  | bin (o : Bo) (a b : E) | neg (a : E)
  | cmp (o : Co) (a b : E) | chain (o o' : Co) (a b c : E)
  | not (a : E) | and (a b : E) | or (a b : E) | ite (c a b : E)
  | idx (a b : E) | slL (a lo : E) | slU (a hi : E) | slLU (a lo hi : E) | rev (a : E)
  | b1 (f : B1) (a : E) | b2 (f : B2) (a b : E) | m1 (f : M1) (a b : E) | get2 (a b c : E)
  | call (f : Str) (as : Es) | io (i : Nat)
  | app (i : Nat) (e : E) | ext (i : Nat) (e : E) | pop (i : Nat)
  | comp (elt : E) (p : Pat) (it : It) (own : List Nat) | compIf (elt : E) (p : Pat) (it : It) (own : List Nat) (c : E)
  | dcomp (k v : E) (p : Pat) (it : It) (own : List Nat)
  | dict (kvs : Es)
  | lrg (a b : E)
  | fl (i : Nat) (k : Str) | mkS (c m : E)
inductive Es where
  | nil | cons (e : E) (r : Es) | star (e : E) (r : Es)
inductive It where
  | e (x : E) | scr (i : Nat) | rng1 (a : E) | rng2 (a b : E) | rng3 (a b c : E) | enum (a : E) | zip (a b : E) | zip3 (a b c : E) | items (a : E)
end
mutual
inductive S where
  | setf (i : Nat) (k : Str) (e : E) | asg (p : Pat) (e : E) | par (ps : Pats) (es : Es) | setx (i : Nat) (k e : E)
  | ret (e : E) | retN | exp (e : E) | ifs (c : E) (a b : Ss) | whl (c : E) (b : Ss) | for_ (p : Pat) (it : It) (b : Ss) | never | pass | brk | cnt
inductive Ss where
  | nil | cons (s : S) (r : Ss) | pull (i j : Nat) (r : Ss)
end

abbrev Sl := Fl × Dt
abbrev En := List (Option Sl)
/-- a call's meaning: the value, and what the arguments hold behind it, in order -/
abbrev CallS := Str → List Sl → Option (Sl × List Dt)

/-- the most items of a list made here -/
def lim : Nat := 1000000
def tru : Dt → Option Bool
  | .none => some false
  | .bool b => some b
  | .int i => some (decide (i ≠ 0))
  | .str s => if s.length ≤ lim then some (decide (s.length ≠ 0)) else none
  | .list xs | .tuple xs => some (!xs.isEmpty)
  | .dict kvs => some (!kvs.isEmpty)
/-- whether a product is small enough -/
def mulOk (i j : Int) : Bool := decide (i.natAbs < 2 ^ 64) || decide (j.natAbs < 2 ^ 64) || decide (i.natAbs.log2 + j.natAbs.log2 < 1000000)
def divOk (j : Int) : Bool := decide (j ≠ 0) && decide (j.natAbs.log2 < 9000)
/-- data without dicts, not too deep -/
def flat (d : Dt) : Bool := SeqAt.shaped d
def isInt : Dt → Option Int
  | .int i => some i
  | _ => none
def isStr : Dt → Option Str
  | .str i => some i
  | _ => none
def isBool : Dt → Option Bool
  | .bool i => some i
  | _ => none
def allI : List Dt → Option (List Int) := fun ds => ds.mapM isInt
/-- the draws' record: cells, left, mixed, turn -/
def srcD (ns : List Int) (l m t : Int) : Dt := .tuple [.list (ns.map .int), .int l, .int m, .int t]
def getF (k : Str) : Dt → Option Int
  | .tuple [.list _, .int l, .int m, .int t] => if k = "left" then some l else if k = "mixed" then some m else if k = "turn" then some t else none
  | _ => none
def putF (k : Str) (v : Int) : Dt → Option Dt
  | .tuple [.list c, .int l, .int m, .int t] => if k = "left" then some (.tuple [.list c, .int v, .int m, .int t]) else if k = "mixed" then some (.tuple [.list c, .int l, .int v, .int t]) else if k = "turn" then some (.tuple [.list c, .int l, .int m, .int v]) else none
  | _ => none
/-- cells drawn (the last one first) while less than two is left -/
def pullI : List Int → Int → List Int × Int
  | [], l => ([], l)
  | n :: r, l => if l < 2 then pullI r n else (n :: r, l)
def pullD : Dt → Option Dt
  | .tuple [.list ds, .int l, .int m, .int t] => (allI ds).map fun ns => srcD (pullI ns.reverse l).1.reverse (pullI ns.reverse l).2 m t
  | _ => none
def allB : List Dt → Option (List Bool) := fun ds => ds.mapM isBool
def seqOf : Dt → Option (List Dt)
  | .list xs | .tuple xs => some xs
  | _ => none

def binD : Bo → Dt → Dt → Option Sl
  | .add, .int i, .int j => some (.sh, .int (i + j))
  | .add, .str a, .str b => if a.length + b.length ≤ lim then some (.sh, .str (a ++ b)) else none
  | .add, .list xs, .list ys => if xs.length + ys.length ≤ lim then some (.own, .list (xs ++ ys)) else none
  | .add, .tuple xs, .tuple ys => if xs.length + ys.length ≤ lim then some (.sh, .tuple (xs ++ ys)) else none
  | .sub, .int i, .int j => some (.sh, .int (i - j))
  | .mul, .int i, .int j => if mulOk i j then some (.sh, .int (i * j)) else none
  | .mul, .list xs, .int k => if xs.length * k.toNat ≤ lim ∧ k.natAbs < 2 ^ 60 then some (.own, .list (List.replicate k.toNat xs).flatten) else none
  | .fdiv, .int i, .int j => if divOk j then some (.sh, .int (i.fdiv j)) else none
  | .mod, .int i, .int j => if j ≠ 0 then some (.sh, .int (i.fmod j)) else none
  | .pow, .int i, .int j => if 0 ≤ j ∧ j ≤ 1000000 ∧ i.natAbs < 2 ^ 64 then some (.sh, .int (i ^ j.toNat)) else none
  | .shl, .int i, .int j => if 0 ≤ j ∧ j ≤ 1000000 ∧ i.natAbs < 2 ^ 64 then some (.sh, .int (i * 2 ^ j.toNat)) else none
  | _, _, _ => none
def inD (d : Dt) : Dt → Option Bool
  | .list xs => if flat d && flat (.list xs) then some (xs.any fun z => PyData.eqv z d) else none
  | _ => none
def cmpD : Co → Dt → Dt → Option Bool
  | .lt, .int i, .int j => some (decide (i < j))
  | .le, .int i, .int j => some (decide (i ≤ j))
  | .gt, .int i, .int j => some (decide (j < i))
  | .ge, .int i, .int j => some (decide (j ≤ i))
  | .eq, .int i, .int j => some (decide (i = j))
  | .ne, .int i, .int j => some (!decide (i = j))
  | .eq, .str i, .str j => some (decide (i = j))
  | .ne, .str i, .str j => some (!decide (i = j))
  | .eq, a, b => if flat a && flat b then some (PyData.eqv a b) else none
  | .ne, a, b => if flat a && flat b then some (!PyData.eqv a b) else none
  | .isN, .none, .none => some true
  | .isN, .int _, .none | .isN, .tuple _, .none | .isN, .list _, .none | .isN, .str _, .none | .isN, .bool _, .none => some false
  | .notN, .none, .none => some false
  | .notN, .int _, .none | .notN, .tuple _, .none | .notN, .list _, .none | .notN, .str _, .none | .notN, .bool _, .none => some true
  | .inn, a, b => inD a b
  | .nin, a, b => (inD a b).map fun z => !z
  | _, _, _ => none
/-- the place that an index means -/
def ixD {α : Type} (xs : List α) (i : Int) : Option α := L2.atI xs i
def isKey : Dt → Bool
  | .int _ | .str _ => true
  | _ => false
def eqK : Dt → Dt → Bool
  | .int i, .int j => decide (i = j)
  | .str x, .str y => decide (x = y)
  | _, _ => false
def kvGet (kvs : List (Dt × Dt)) (k : Dt) : Option Dt := (kvs.find? fun p => eqK p.1 k).map (·.2)
def kvPut (es : List (Dt × Dt)) (k d : Dt) : List (Dt × Dt) := if es.any (fun p => eqK p.1 k) = true then es.map (fun p => if eqK p.1 k = true then (p.1, d) else p) else es ++ [(k, d)]
def idxD : Dt → Dt → Option Dt
  | .list xs, .int i => ixD xs i
  | .tuple xs, .int i => ixD xs i
  | .dict kvs, k => if isKey k then kvGet kvs k else none
  | _, _ => none
/-- a cut of a list -/
def cutD {α : Type} (xs : List α) (lo hi : Option Int) : List α := (xs.drop (HT.sIx xs.length 0 lo)).take (HT.sIx xs.length xs.length hi - HT.sIx xs.length 0 lo)
def sliceD (lo hi : Option Int) : Dt → Option Sl
  | .list xs => some (.own, .list (cutD xs lo hi))
  | .tuple xs => some (.sh, .tuple (cutD xs lo hi))
  | _ => none
def revD : Dt → Option Sl
  | .list xs => some (.own, .list xs.reverse)
  | .tuple xs => some (.sh, .tuple xs.reverse)
  | _ => none
mutual
def ltD : Dt → Dt → Bool
  | .int i, .int j => decide (i < j)
  | .str a, .str b => decide (a.cps.toList < b.cps.toList)
  | .list xs, .list ys => ltDs xs ys
  | .tuple xs, .tuple ys => ltDs xs ys
  | _, _ => false
def ltDs : List Dt → List Dt → Bool
  | [], [] => false
  | [], _ :: _ => true
  | _ :: _, [] => false
  | x :: xs, y :: ys => if PyData.eqv x y then ltDs xs ys else ltD x y
end
def insI (x : Int) : List Int → List Int
  | [] => [x]
  | y :: ys => if x ≤ y then x :: y :: ys else y :: insI x ys
/-- ints, ascending -/
def sortI : List Int → List Int
  | [] => []
  | x :: xs => insI x (sortI xs)
/-- the sorted list, equal ones in their turns -/
def insD (x : Dt) : List Dt → List Dt
  | [] => [x]
  | y :: ys => if ltD x y then x :: y :: ys else y :: insD x ys
def sortD : List Dt → List Dt
  | [] => []
  | x :: xs => insD x (sortD xs)
/-- tuples of ints of one length -/
def intTup (n : Nat) : Dt → Bool
  | .tuple xs => decide (xs.length = n) && xs.all fun x => (isInt x).isSome
  | _ => false
/-- what may be sorted here: ints alone, or tuples of ints of one length -/
def sortable : List Dt → Bool
  | [] => true
  | .int i :: r => r.all fun x => (isInt x).isSome
  | .tuple xs :: r => (.tuple xs :: r : List Dt).all (intTup xs.length)
  | _ => false
/-- what repr is asked of here: no dicts, not too long -/
def shows (d : Dt) : Bool := flat d && d.showable && d.leavesShort 100 && decide (d.bulk ≤ 100000)
def b1D : B1 → Dt → Option Sl
  | .len, .list xs => some (.sh, .int xs.length)
  | .len, .tuple xs => some (.sh, .int xs.length)
  | .len, .str s => if s.length ≤ lim then some (.sh, .int s.length) else none
  | .abs, .int i => some (.sh, .int (if i < 0 then -i else i))
  | .tuple, .list xs => some (.sh, .tuple xs)
  | .tuple, .tuple xs => some (.sh, .tuple xs)
  | .list, .list xs => some (.own, .list xs)
  | .list, .tuple xs => some (.own, .list xs)
  | .sum, .list xs => (allI xs).map fun ns => (.sh, .int ns.sum)
  | .max, .list xs => match allI xs with
    | some (n :: ns) => some (.sh, .int (ns.foldl max n))
    | _ => none
  | .min, .list xs => match allI xs with
    | some (n :: ns) => some (.sh, .int (ns.foldl min n))
    | _ => none
  | .all, .list xs => (allB xs).map fun bs => (.sh, .bool (bs.all id))
  | .any, .list xs => (allB xs).map fun bs => (.sh, .bool (bs.any id))
  | .int, .int i => some (.sh, .int i)
  | .int, .bool b => some (.sh, .int (if b then 1 else 0))
  | .sorted, .list xs => (allI xs).map fun ns => (.own, .list ((sortI ns).map .int))
  | .sorted, .dict kvs => (allI (kvs.map (·.1))).map fun ns => (.own, .list ((sortI ns).map .int))
  | .str, .int i => if i.natAbs.log2 < 1920 then some (.sh, .str (toString i)) else none
  | .repr, d => if shows d then some (.sh, .str d.shown) else none
  | _, _ => none
def b2D : B2 → Dt → Dt → Option Sl
  | .max, .int i, .int j => some (.sh, .int (if j > i then j else i))
  | .min, .int i, .int j => some (.sh, .int (if j < i then j else i))
  | _, _, _ => none
def m1D : M1 → Dt → Dt → Option Sl
  | .get, .dict kvs, k => if isKey k then some (.sh, (kvGet kvs k).getD .none) else none
  | _, _, _ => none
def get2D : Dt → Dt → Dt → Option Sl
  | .dict kvs, k, d => if isKey k then some (.sh, (kvGet kvs k).getD d) else none
  | _, _, _ => none

/-! ### slots -/
def rd (ρ : En) (i : Nat) : Option Sl := ρ[i]?.join
def wipe (ρ : En) : List Nat → En
  | [] => ρ
  | i :: is => (wipe ρ is).set i none
/-- the slots of is as they stand in ρ, all else as in ρ' -/
def back (ρ ρ' : En) : List Nat → En
  | [] => ρ'
  | i :: is => (back ρ ρ' is).set i (rd ρ i)
def okFl : Fl → Bool
  | .sh | .own | .src => true
  | .bo _ => false
mutual
def bind : Pat → Sl → En → Option En
  | .nm i, (fl, d), ρ => if okFl fl && decide (i < ρ.length) then some (ρ.set i (some (fl, d))) else none
  | .tp ps, (.sh, .tuple ds), ρ => binds ps ds ρ
  | .tp _, _, _ => none
def binds : Pats → List Dt → En → Option En
  | .nil, [], ρ => some ρ
  | .cons p ps, d :: ds, ρ => (bind p (.sh, d) ρ).bind (binds ps ds)
  | _, _, _ => none
end
def bindP : Pats → List Sl → En → Option En
  | .nil, [], ρ => some ρ
  | .cons p ps, d :: ds, ρ => (bind p d ρ).bind (bindP ps ds)
  | _, _, _ => none
mutual
/-- expressions that change nothing -/
def pureE : E → Bool
  | .v _ | .gl .. | .int _ | .str _ | .bl _ | .non => true
  | .sh _ | .mv _ | .app .. | .ext .. | .pop _ | .io _ | .comp .. | .compIf .. | .dcomp .. | .dict _ | .lrg .. | .fl .. | .mkS .. => false
  | .tup es | .lst es => pureEs es
  | .bin _ a b | .cmp _ a b | .idx a b | .and a b | .or a b | .b2 _ a b | .m1 _ a b | .slL a b | .slU a b => pureE a && pureE b
  | .neg a | .not a | .rev a | .b1 _ a => pureE a
  | .chain _ _ a b c | .ite a b c | .slLU a b c | .get2 a b c => pureE a && pureE b && pureE c
  | .call _ as => pureEs as
def pureEs : Es → Bool
  | .nil => true
  | .cons e r | .star e r => pureE e && pureEs r
end
def okBo : Fl → E → Bool
  | .bo _, b => pureE b
  | _, _ => true
/-- what may be kept as a shared value -/
def keep? : Fl → Bool
  | .sh | .own => true
  | _ => false
/-- what may be read -/
def read? : Fl → Bool
  | .src => false
  | _ => true
def putIo (ρ : En) : List (Dt ⊕ Nat) → List Dt → Option En
  | [], [] => some ρ
  | .inl _ :: D, _ :: os => putIo ρ D os
  | .inr i :: D, o :: os => match rd ρ i with
    | some (fl, _) => (putIo ρ D os).map fun ρ' => ρ'.set i (some (fl, o))
    | none => none
  | _, _ => none
/-- an argument as the callee takes it -/
def argSl (ρ : En) : Dt ⊕ Nat → Sl
  | .inl d => (.sh, d)
  | .inr i => (rd ρ i).getD (.sh, .none)

/-! ### loops -/
inductive Out where
  | nx (ρ : En) | rt (r : Sl) (ρ : En) | bk (ρ : En) | ct (ρ : En)
def compL (f : En → Dt → Option (Option Dt × En)) : List Dt → En → Option (List Dt × En)
  | [], ρ => some ([], ρ)
  | x :: xs, ρ => (f ρ x).bind fun r => (compL f xs r.2).map fun q => (r.1.toList ++ q.1, q.2)
def forL (f : En → Dt → Option Out) : List Dt → En → Option Out
  | [], ρ => some (.nx ρ)
  | x :: xs, ρ => match f ρ x with
    | some (.nx ρ') => forL f xs ρ'
    | some (.ct ρ') => forL f xs ρ'
    | some (.bk ρ') => some (.nx ρ')
    | some (.rt r ρ') => some (.rt r ρ')
    | none => none
def whL (c : En → Option (Bool × En)) (f : En → Option Out) : Nat → En → Option Out
  | 0, _ => none
  | n + 1, ρ => match c ρ with
    | some (false, ρ') => some (.nx ρ')
    | some (true, ρ') => match f ρ' with
      | some (.nx ρ'') => whL c f n ρ''
      | some (.ct ρ'') => whL c f n ρ''
      | some (.bk ρ'') => some (.nx ρ'')
      | some (.rt r ρ'') => some (.rt r ρ'')
      | none => none
    | none => none
/-- the ints from lo by step c, n of them -/
def upTo (lo c : Int) (n : Nat) : List Dt := (List.range n).map fun i => .int (lo + (i : Nat) * c)
def bnd62 (i : Int) : Bool := decide (-(2 ^ 62) ≤ i) && decide (i < 2 ^ 62)
def zipD (xs ys : List Dt) : List Dt := (xs.zip ys).map fun p => .tuple [p.1, p.2]
def zip2 : Dt → Dt → Option (List Dt)
  | .list xs, .list ys => some (zipD xs ys)
  | .tuple xs, .tuple ys => some (zipD xs ys)
  | _, _ => none
/-- the dict of pairs, the later ones over the earlier -/
def kvAdd (es : List (Dt × Dt)) : Dt → List (Dt × Dt)
  | .tuple [k, d] => kvPut es k d
  | _ => es
def kvOf (ps : List Dt) : List (Dt × Dt) := ps.foldl kvAdd []
def enumD (xs : List Dt) : List Dt := xs.zipIdx.map fun p => .tuple [.int (p.2 : Nat), p.1]

/-! ### what expressions mean -/
/-- a value's result: shared ones and owned ones end as shared -/
def keepS (r : Option (Sl × En)) : Option (Dt × En) := r.bind fun q => if keep? q.1.1 then some (q.1.2, q.2) else none
/-- a value's truth -/
def tst (r : Sl × En) : Option (Bool × En) := if read? r.1.1 then (tru r.1.2).map fun b => (b, r.2) else none
section
variable (cl : CallS)
mutual
def ev : E → En → Option (Sl × En)
  | .v i, ρ => match rd ρ i with
    | some (.sh, d) => some ((.sh, d), ρ)
    | some (.own, d) => some ((.bo i, d), ρ)
    | _ => none
  | .sh i, ρ => match rd ρ i with
    | some (.sh, d) => some ((.sh, d), ρ)
    | some (.own, d) => some ((.sh, d), ρ.set i (some (.sh, d)))
    | _ => none
  | .mv i, ρ => match rd ρ i with
    | some (.sh, d) => some ((.sh, d), ρ)
    | some (.own, d) => some ((.own, d), ρ.set i none)
    | some (.src, d) => some ((.src, d), ρ.set i none)
    | _ => none
  | .gl _ d, ρ => some ((.sh, d), ρ)
  | .int i, ρ => some ((.sh, .int i), ρ)
  | .str s, ρ => some ((.sh, .str s), ρ)
  | .bl b, ρ => some ((.sh, .bool b), ρ)
  | .non, ρ => some ((.sh, .none), ρ)
  | .tup es, ρ => (evL es ρ).bind fun r => if r.1.length ≤ lim then some ((.sh, .tuple r.1), r.2) else none
  | .lst es, ρ => (evL es ρ).bind fun r => if r.1.length ≤ lim then some ((.own, .list r.1), r.2) else none
  | .bin o a b, ρ => (ev a ρ).bind fun r => if read? r.1.1 && okBo r.1.1 b then (ev b r.2).bind fun q => if read? q.1.1 then (binD o r.1.2 q.1.2).map fun z => (z, q.2) else none else none
  | .neg a, ρ => (ev a ρ).bind fun r => match r.1.2 with
    | .int i => some ((.sh, .int (-i)), r.2)
    | _ => none
  | .cmp o a b, ρ => (ev a ρ).bind fun r => if read? r.1.1 && okBo r.1.1 b then (ev b r.2).bind fun q => if read? q.1.1 then (cmpD o r.1.2 q.1.2).map fun z => ((.sh, .bool z), q.2) else none else none
  | .chain o o' a b c, ρ => (ev a ρ).bind fun r => if keep? r.1.1 then (ev b r.2).bind fun q => if keep? q.1.1 then (cmpD o r.1.2 q.1.2).bind fun z =>
      if z then (ev c q.2).bind fun t => if read? t.1.1 then (cmpD o' q.1.2 t.1.2).map fun z' => ((.sh, .bool z'), t.2) else none else some ((.sh, .bool false), q.2) else none else none
  | .not a, ρ => (ev a ρ).bind fun r => if read? r.1.1 then (tru r.1.2).map fun b => ((.sh, .bool (!b)), r.2) else none
  | .and a b, ρ => (keepS (ev a ρ)).bind fun r => (tru r.1).bind fun t => if t then (keepS (ev b r.2)).map fun q => ((.sh, q.1), q.2) else some ((.sh, r.1), r.2)
  | .or a b, ρ => (keepS (ev a ρ)).bind fun r => (tru r.1).bind fun t => if t then some ((.sh, r.1), r.2) else (keepS (ev b r.2)).map fun q => ((.sh, q.1), q.2)
  | .ite c a b, ρ => ((ev c ρ).bind tst).bind fun r => if r.1 then (ev a r.2).bind fun q => if keep? q.1.1 then some q else none else (ev b r.2).bind fun q => if keep? q.1.1 then some q else none
  | .idx a b, ρ => (ev a ρ).bind fun r => if read? r.1.1 && okBo r.1.1 b then (ev b r.2).bind fun q => if read? q.1.1 then (idxD r.1.2 q.1.2).map fun z => ((.sh, z), q.2) else none else none
  | .slL a b, ρ => (ev a ρ).bind fun r => if read? r.1.1 && okBo r.1.1 b then (ev b r.2).bind fun q => match q.1.2 with
      | .int i => (sliceD (some i) none r.1.2).map fun z => (z, q.2)
      | _ => none else none
  | .slU a b, ρ => (ev a ρ).bind fun r => if read? r.1.1 && okBo r.1.1 b then (ev b r.2).bind fun q => match q.1.2 with
      | .int i => (sliceD none (some i) r.1.2).map fun z => (z, q.2)
      | _ => none else none
  | .slLU a b c, ρ => (ev a ρ).bind fun r => if read? r.1.1 && okBo r.1.1 b && okBo r.1.1 c then (ev b r.2).bind fun q => match q.1.2 with
      | .int i => (ev c q.2).bind fun t => match t.1.2 with
        | .int j => (sliceD (some i) (some j) r.1.2).map fun z => (z, t.2)
        | _ => none
      | _ => none else none
  | .rev a, ρ => (ev a ρ).bind fun r => if read? r.1.1 then (revD r.1.2).map fun z => (z, r.2) else none
  | .b1 f a, ρ => (ev a ρ).bind fun r => if read? r.1.1 then (b1D f r.1.2).map fun z => (z, r.2) else none
  | .b2 f a b, ρ => (keepS (ev a ρ)).bind fun r => (keepS (ev b r.2)).bind fun q => (b2D f r.1 q.1).map fun z => (z, q.2)
  | .m1 f a b, ρ => (ev a ρ).bind fun r => if read? r.1.1 && okBo r.1.1 b then (keepS (ev b r.2)).bind fun q => (m1D f r.1.2 q.1).map fun z => (z, q.2) else none
  | .get2 a b c, ρ => (ev a ρ).bind fun r => if read? r.1.1 && okBo r.1.1 b && okBo r.1.1 c then (keepS (ev b r.2)).bind fun q => (keepS (ev c q.2)).bind fun t => (get2D r.1.2 q.1 t.1).map fun z => (z, t.2) else none
  | .call f as, ρ => (evA as ρ).bind fun r => if r.1.2.all (fun i => decide ((rd r.2 i).map (·.1) = some .own ∨ (rd r.2 i).map (·.1) = some .src)) && decide r.1.2.Nodup then
      (cl f (r.1.1.map (argSl r.2))).bind fun q => if okFl q.1.1 then (putIo r.2 r.1.1 q.2).map fun ρ' => (q.1, ρ') else none
    else none
  | .io _, _ => none
  | .app i e, ρ => match rd ρ i with
    | some (.own, .list _) => (keepS (ev e ρ)).bind fun r => match rd r.2 i with
      | some (.own, .list xs) => if xs.length < lim then some ((.sh, .none), r.2.set i (some (.own, .list (xs ++ [r.1])))) else none
      | _ => none
    | _ => none
  | .ext i e, ρ => match rd ρ i with
    | some (.own, .list _) => (ev e ρ).bind fun r => match r.1, rd r.2 i with
      | (.own, .list ys), some (.own, .list xs) => if xs.length + ys.length ≤ lim then some ((.sh, .none), r.2.set i (some (.own, .list (xs ++ ys)))) else none
      | _, _ => none
    | _ => none
  | .pop i, ρ => match rd ρ i with
    | some (.own, .list xs) => match xs.getLast? with
      | some x => some ((.sh, x), ρ.set i (some (.own, .list xs.dropLast)))
      | none => none
    | _ => none
  | .comp elt p it own, ρ => (evI it ρ).bind fun r => if decide (r.1.length ≤ lim) && own.all (fun i => decide ((rd r.2 i).map (·.1) ≠ some .own ∧ (rd r.2 i).map (·.1) ≠ some .src)) then
      (compL (fun ρ' x => (bind p (.sh, x) ρ').bind fun ρ'' => (keepS (ev elt ρ'')).map fun q => (some q.1, wipe q.2 own)) r.1 (wipe r.2 own)).map fun q => ((.own, .list q.1), back r.2 q.2 own) else none
  | .compIf elt p it own c, ρ => (evI it ρ).bind fun r => if decide (r.1.length ≤ lim) && own.all (fun i => decide ((rd r.2 i).map (·.1) ≠ some .own ∧ (rd r.2 i).map (·.1) ≠ some .src)) then
      (compL (fun ρ' x => (bind p (.sh, x) ρ').bind fun ρ'' => ((ev c ρ'').bind tst).bind fun t => if t.1 then (keepS (ev elt t.2)).map fun q => (some q.1, wipe q.2 own) else some (none, wipe t.2 own)) r.1 (wipe r.2 own)).map fun q =>
        ((.own, .list q.1), back r.2 q.2 own) else none
  | .dcomp k v p it own, ρ => (evI it ρ).bind fun r => if decide (r.1.length ≤ lim) && own.all (fun i => decide ((rd r.2 i).map (·.1) ≠ some .own ∧ (rd r.2 i).map (·.1) ≠ some .src)) then
      (compL (fun ρ' x => (bind p (.sh, x) ρ').bind fun ρ'' => (keepS (ev k ρ'')).bind fun q => if isKey q.1 then (keepS (ev v q.2)).map fun t => (some (.tuple [q.1, t.1]), wipe t.2 own) else none) r.1 (wipe r.2 own)).map fun q =>
        ((.own, .dict (kvOf q.1)), back r.2 q.2 own) else none
  | .dict _, _ => none
  | .fl i k, ρ => match rd ρ i with
    | some (.src, d) => (getF k d).map fun v => ((.sh, .int v), ρ)
    | _ => none
  | .mkS c m, ρ => (ev c ρ).bind fun r => match r.1 with
    | (.own, .list ds) => (allI ds).bind fun ns => (keepS (ev m r.2)).bind fun q => match q.1 with
      | .int k => some ((.src, srcD ns 1 k 0), q.2)
      | _ => none
    | _ => none
  | .lrg a b, ρ => (keepS (ev a ρ)).bind fun r => (keepS (ev b r.2)).bind fun q => match r.1, q.1 with
    | .int i, .int j => if bnd62 i && bnd62 j && decide ((j - i).toNat ≤ lim) then some ((.own, .list (upTo i 1 (j - i).toNat)), q.2) else none
    | _, _ => none
def evL : Es → En → Option (List Dt × En)
  | .nil, ρ => some ([], ρ)
  | .cons e r, ρ => (keepS (ev e ρ)).bind fun x => (evL r x.2).map fun q => (x.1 :: q.1, q.2)
  | .star e r, ρ => (ev e ρ).bind fun x => if read? x.1.1 then (seqOf x.1.2).bind fun ds => (evL r x.2).map fun q => (ds ++ q.1, q.2) else none
def evP : Es → En → Option (List Sl × En)
  | .nil, ρ => some ([], ρ)
  | .cons e r, ρ => (ev e ρ).bind fun x => if okFl x.1.1 then (evP r x.2).map fun q => (x.1 :: q.1, q.2) else none
  | .star .., _ => none
def evA : Es → En → Option ((List (Dt ⊕ Nat) × List Nat) × En)
  | .nil, ρ => some (([], []), ρ)
  | .cons (.io i) r, ρ => if (rd ρ i).isSome then (evA r ρ).map fun q => ((.inr i :: q.1.1, i :: q.1.2), q.2) else none
  | .cons e r, ρ => (keepS (ev e ρ)).bind fun x => (evA r x.2).map fun q => ((.inl x.1 :: q.1.1, q.1.2), q.2)
  | .star .., _ => none
def evI : It → En → Option (List Dt × En)
  | .e x, ρ => (keepS (ev x ρ)).bind fun r => (seqOf r.1).map fun ds => (ds, r.2)
  | .scr i, ρ => match rd ρ i with
    | some (.src, .list ds) => some (ds, ρ)
    | _ => none
  | .rng1 a, ρ => (keepS (ev a ρ)).bind fun r => match r.1 with
    | .int i => if bnd62 i then some (upTo 0 1 i.toNat, r.2) else none
    | _ => none
  | .rng2 a b, ρ => (keepS (ev a ρ)).bind fun r => (keepS (ev b r.2)).bind fun q => match r.1, q.1 with
    | .int i, .int j => if bnd62 i && bnd62 j then some (upTo i 1 (j - i).toNat, q.2) else none
    | _, _ => none
  | .rng3 a b c, ρ => (keepS (ev a ρ)).bind fun r => (keepS (ev b r.2)).bind fun q => (keepS (ev c q.2)).bind fun t => match r.1, q.1, t.1 with
    | .int i, .int j, .int k => if decide (k ≠ 0) && decide (k.natAbs < 2 ^ 20) && Builtin.Range.small i j k && decide (0 ≤ Builtin.Range.rangeSize i j k) then some (upTo i k (Builtin.Range.rangeSize i j k).toNat, t.2) else none
    | _, _, _ => none
  | .enum a, ρ => (keepS (ev a ρ)).bind fun r => (seqOf r.1).map fun ds => (enumD ds, r.2)
  | .zip a b, ρ => (keepS (ev a ρ)).bind fun r => (keepS (ev b r.2)).bind fun q => (zip2 r.1 q.1).map fun ds => (ds, q.2)
  | .zip3 .., _ => none
  | .items _, _ => none
end
def tv (e : E) (ρ : En) : Option (Bool × En) := (ev cl e ρ).bind tst
mutual
def ex (fuel : Nat) : S → En → Option Out
  | .asg p e, ρ => (ev cl e ρ).bind fun r => (bind p r.1 r.2).map .nx
  | .par ps es, ρ => (evP cl es ρ).bind fun r => (bindP ps r.1 r.2).map .nx
  | .setx i k e, ρ => (keepS (ev cl e ρ)).bind fun r => if (rd r.2 i).isSome then (keepS (ev cl k r.2)).bind fun q => match rd q.2 i with
    | some (.own, .list xs) => match q.1 with
      | .int j => (L2.ixN xs.length j).map fun n => .nx (q.2.set i (some (.own, .list (xs.set n r.1))))
      | _ => none
    | some (.own, .dict kvs) => if isKey q.1 && decide (kvs.length < lim) then some (.nx (q.2.set i (some (.own, .dict (kvPut kvs q.1 r.1))))) else none
    | _ => none else none
  | .setf i k e, ρ => (keepS (ev cl e ρ)).bind fun r => match r.1, rd r.2 i with
    | .int v, some (.src, d) => (putF k v d).map fun d' => .nx (r.2.set i (some (.src, d')))
    | _, _ => none
  | .ret e, ρ => (ev cl e ρ).bind fun r => if okFl r.1.1 then some (.rt r.1 r.2) else none
  | .retN, ρ => some (.rt (.sh, .none) ρ)
  | .exp e, ρ => (ev cl e ρ).map fun r => .nx r.2
  | .ifs c a b, ρ => (tv cl c ρ).bind fun r => if r.1 then exs fuel a r.2 else exs fuel b r.2
  | .whl c b, ρ => whL (tv cl c) (exs fuel b) fuel ρ
  | .for_ p it b, ρ => (evI cl it ρ).bind fun r => forL (fun ρ' x => (bind p (.sh, x) ρ').bind (exs fuel b)) r.1 r.2
  | .never, _ => none
  | .pass, ρ => some (.nx ρ)
  | .brk, ρ => some (.bk ρ)
  | .cnt, ρ => some (.ct ρ)
def exs (fuel : Nat) : Ss → En → Option Out
  | .nil, ρ => some (.nx ρ)
  | .cons s r, ρ => match ex fuel s ρ with
    | some (.nx ρ') => exs fuel r ρ'
    | o => o
  | .pull i j r, ρ => match rd ρ i, rd ρ j with
    | some (.src, d), none => if decide (i ≠ j) && decide (j < ρ.length) then (pullD d).bind fun d' => exs fuel r (ρ.set i (some (.src, d'))) else none
    | _, _ => none
end
end
end Mini

end
section
set_option Elab.async false
set_option linter.all false
set_option maxRecDepth 100000
set_option maxHeartbeats 4000000
/-! Mini, part 2: how data stands in the abstract heap. -/
namespace Mini
open PySem PySem.Spec PyProof.Rows L2

/-- a list, a tuple of the module's own -/
def LsK (K : PySem.W.Frag) (a : Addr) (xs : List V) : Prop :=
  ∃ (o : Obj) (its : Array Value) (n : Nat), K.lookup a = some o ∧ o.cls = .type "list" ∧ o.dict = none ∧ o.data = .seq its n ∧ its.size ≤ sizeLine ∧ Vals xs its.toList
def TpK (K : PySem.W.Frag) (a : Addr) (xs : List V) : Prop :=
  ∃ (o : Obj) (its : Array Value) (n : Nat), K.lookup a = some o ∧ o.cls = .type "tuple" ∧ o.data = .seq its n ∧ its.size ≤ sizeLine ∧ Vals xs its.toList
def keyD : Key → Dt
  | .inl i => .int i
  | .inr x => .str x
section
variable (K : PySem.W.Frag) (W : Addr → Prop) (H : Hp)
mutual
/-- the value v stands for the data, and nothing of it lies at W -/
def Rep : Dt → V → Prop
  | .none, v => v = .non
  | .bool b, v => v = .bl b
  | .int i, v => v = .int i
  | .str x, v => v = .str x
  | .list ds, v => ∃ a xs, v = .ref a ∧ (H a = some (.lst xs) ∧ ¬ W a) ∧ Reps ds xs
  | .tuple ds, v => ∃ a xs, v = .ref a ∧ ((H a = some (.tup xs) ∧ ¬ W a) ∨ TpK K a xs) ∧ Reps ds xs
  | .dict es, v => ∃ a kvs, v = .ref a ∧ (H a = some (.dK kvs) ∧ ¬ W a) ∧ RepKv es kvs
def Reps : List Dt → List V → Prop
  | [], xs => xs = []
  | d :: ds, xs => ∃ x r, xs = x :: r ∧ Rep d x ∧ Reps ds r
def RepKv : List (Dt × Dt) → List (Key × V) → Prop
  | [], r => r = []
  | (kd, d) :: es, r => ∃ k v q, r = (k, v) :: q ∧ kd = keyD k ∧ Rep d v ∧ RepKv es q
end
end
section
variable {K : PySem.W.Frag} {W W' : Addr → Prop} {H H' : Hp}
mutual
theorem Rep.step (h : ∀ b o, H b = some o → ¬ W b → H' b = some o) (h2 : ∀ a, W' a → W a ∨ H a = none) : ∀ (d : Dt) (v : V), Rep K W H d v → Rep K W' H' d v
  | .none, _, r => r
  | .bool _, _, r => r
  | .int _, _, r => r
  | .str _, _, r => r
  | .list ds, v, ⟨a, xs, e, ⟨r, hw⟩, q⟩ => ⟨a, xs, e, ⟨h _ _ r hw, fun z => by
      rcases h2 a z with z | z
      · exact hw z
      · rw [z] at r; cases r⟩, Reps.step h h2 ds xs q⟩
  | .tuple ds, v, ⟨a, xs, e, r, q⟩ => ⟨a, xs, e, by
      rcases r with ⟨r, hw⟩ | r
      · refine .inl ⟨h _ _ r hw, fun z => ?_⟩
        rcases h2 a z with z | z
        · exact hw z
        · rw [z] at r; cases r
      · exact .inr r, Reps.step h h2 ds xs q⟩
  | .dict es, v, ⟨a, kvs, e, ⟨r, hw⟩, q⟩ => ⟨a, kvs, e, ⟨h _ _ r hw, fun z => by
      rcases h2 a z with z | z
      · exact hw z
      · rw [z] at r; cases r⟩, RepKv.step h h2 es kvs q⟩
theorem Reps.step (h : ∀ b o, H b = some o → ¬ W b → H' b = some o) (h2 : ∀ a, W' a → W a ∨ H a = none) : ∀ (ds : List Dt) (xs : List V), Reps K W H ds xs → Reps K W' H' ds xs
  | [], _, r => r
  | d :: ds, xs, ⟨x, r, e, q1, q2⟩ => ⟨x, r, e, Rep.step h h2 d x q1, Reps.step h h2 ds r q2⟩
theorem RepKv.step (h : ∀ b o, H b = some o → ¬ W b → H' b = some o) (h2 : ∀ a, W' a → W a ∨ H a = none) : ∀ (es : List (Dt × Dt)) (r : List (Key × V)), RepKv K W H es r → RepKv K W' H' es r
  | [], _, r => r
  | (kd, d) :: es, r, ⟨k, v, q, e, e1, q1, q2⟩ => ⟨k, v, q, e, e1, Rep.step h h2 d v q1, RepKv.step h h2 es q q2⟩
end
theorem Reps.nil : Reps K W H [] [] := rfl
theorem Reps.cons {d : Dt} {ds : List Dt} {x : V} {xs : List V} (a : Rep K W H d x) (b : Reps K W H ds xs) : Reps K W H (d :: ds) (x :: xs) := ⟨x, xs, rfl, a, b⟩
theorem Reps.length : ∀ {ds : List Dt} {xs : List V}, Reps K W H ds xs → ds.length = xs.length
  | [], _, r => by rw [show _ = _ from r]; rfl
  | d :: ds, xs, ⟨x, r, e, _, q⟩ => by subst e; simp [Reps.length q]
theorem Reps.append : ∀ {ds es : List Dt} {xs ys : List V}, Reps K W H ds xs → Reps K W H es ys → Reps K W H (ds ++ es) (xs ++ ys)
  | [], _, _, _, r, q => by rw [show _ = _ from r]; exact q
  | d :: ds, _, _, _, ⟨x, r, e, q1, q2⟩, q => by subst e; exact .cons q1 (Reps.append q2 q)
theorem Reps.get : ∀ {ds : List Dt} {xs : List V} {i : Nat} {d : Dt}, Reps K W H ds xs → ds[i]? = some d → ∃ x, xs[i]? = some x ∧ Rep K W H d x
  | [], _, _, _, _, h => by simp at h
  | d :: ds, _, 0, _, ⟨x, r, e, q1, q2⟩, h => by subst e; simp at h; subst h; exact ⟨x, rfl, q1⟩
  | d :: ds, _, i + 1, _, ⟨x, r, e, q1, q2⟩, h => by
    subst e
    obtain ⟨y, h1, h2⟩ := Reps.get (i := i) q2 (by simpa using h)
    exact ⟨y, by simpa using h1, h2⟩
theorem Reps.at_ : ∀ {ds : List Dt} {xs : List V} {i : Nat} {x : V}, Reps K W H ds xs → xs[i]? = some x → ∃ d, ds[i]? = some d ∧ Rep K W H d x
  | [], _, _, _, r, h => by rw [show _ = _ from r] at h; simp at h
  | d :: ds, _, 0, _, ⟨x, r, e, q1, q2⟩, h => by subst e; simp at h; subst h; exact ⟨d, rfl, q1⟩
  | d :: ds, _, i + 1, _, ⟨x, r, e, q1, q2⟩, h => by
    subst e
    obtain ⟨y, h1, h2⟩ := Reps.at_ (i := i) q2 (by simpa using h)
    exact ⟨y, by simpa using h1, h2⟩
theorem Reps.take : ∀ {ds : List Dt} {xs : List V} (n : Nat), Reps K W H ds xs → Reps K W H (ds.take n) (xs.take n)
  | _, _, 0, _ => rfl
  | [], _, n + 1, r => by rw [show _ = _ from r]; rfl
  | d :: ds, _, n + 1, ⟨x, r, e, q1, q2⟩ => by subst e; exact .cons q1 (Reps.take n q2)
theorem Reps.drop : ∀ {ds : List Dt} {xs : List V} (n : Nat), Reps K W H ds xs → Reps K W H (ds.drop n) (xs.drop n)
  | _, _, 0, r => r
  | [], _, n + 1, r => by rw [show _ = _ from r]; rfl
  | d :: ds, _, n + 1, ⟨x, r, e, q1, q2⟩ => by subst e; exact Reps.drop n q2
theorem Reps.set {d : Dt} {x : V} (q : Rep K W H d x) : ∀ {ds : List Dt} {xs : List V} (n : Nat), Reps K W H ds xs → Reps K W H (ds.set n d) (xs.set n x)
  | [], _, _, r => by rw [show _ = _ from r]; rfl
  | d :: ds, _, 0, ⟨y, r, e, q1, q2⟩ => by subst e; exact .cons q q2
  | d :: ds, _, n + 1, ⟨y, r, e, q1, q2⟩ => by subst e; exact .cons q1 (Reps.set q n q2)
theorem Reps.reverse : ∀ {ds : List Dt} {xs : List V}, Reps K W H ds xs → Reps K W H ds.reverse xs.reverse
  | [], _, r => by rw [show _ = _ from r]; rfl
  | d :: ds, _, ⟨x, r, e, q1, q2⟩ => by
    subst e
    rw [List.reverse_cons, List.reverse_cons]
    exact (Reps.reverse q2).append (.cons q1 .nil)
theorem Reps.dropLast : ∀ {ds : List Dt} {xs : List V}, Reps K W H ds xs → Reps K W H ds.dropLast xs.dropLast := fun {ds xs} r => by
  rw [List.dropLast_eq_take, List.dropLast_eq_take, r.length]
  exact r.take _
theorem Reps.rep {ds : List Dt} {xs : List V} (r : Reps K W H ds xs) : ∀ k : Nat, Reps K W H (List.replicate k ds).flatten (List.replicate k xs).flatten
  | 0 => rfl
  | k + 1 => by
    rw [List.replicate_succ, List.replicate_succ, List.flatten_cons, List.flatten_cons]
    exact r.append (Reps.rep r k)
theorem Reps.all {P : V → Prop} (h : ∀ d x, Rep K W H d x → P x) : ∀ {ds : List Dt} {xs : List V}, Reps K W H ds xs → ∀ x ∈ xs, P x
  | [], _, r, x, hx => by rw [show _ = _ from r] at hx; simp at hx
  | d :: ds, _, ⟨y, r, e, q1, q2⟩, x, hx => by
    subst e
    rcases List.mem_cons.mp hx with rfl | hx
    · exact h d _ q1
    · exact Reps.all h q2 x hx
/-- ints -/
theorem Reps.ints : ∀ {ds : List Dt} {ns : List Int} {xs : List V}, Reps K W H ds xs → allI ds = some ns → xs = ns.map V.int
  | [], ns, _, r, h => by
    have e : some [] = some ns := h
    cases e
    exact r
  | d :: ds, ns, _, ⟨x, r, e, q1, q2⟩, h => by
    subst e
    cases d with
    | int i =>
      have h' : ((some i).bind fun a => (allI ds).bind fun b => some (a :: b)) = some ns := by
        rw [← h]
        unfold allI
        rw [List.mapM_cons]
        rfl
      simp only [Option.bind_some] at h'
      cases e2 : allI ds with
      | none => rw [e2] at h'; cases h'
      | some ms =>
        rw [e2] at h'
        cases h'
        have : x = .int i := q1
        rw [this, Reps.ints q2 e2]
        rfl
    | _ => simp [allI, isInt] at h
theorem Reps.bools : ∀ {ds : List Dt} {ns : List Bool} {xs : List V}, Reps K W H ds xs → allB ds = some ns → xs = ns.map V.bl
  | [], ns, _, r, h => by
    have e : some [] = some ns := h
    cases e
    exact r
  | d :: ds, ns, _, ⟨x, r, e, q1, q2⟩, h => by
    subst e
    cases d with
    | bool i =>
      have h' : ((some i).bind fun a => (allB ds).bind fun b => some (a :: b)) = some ns := by
        rw [← h]
        unfold allB
        rw [List.mapM_cons]
        rfl
      simp only [Option.bind_some] at h'
      cases e2 : allB ds with
      | none => rw [e2] at h'; cases h'
      | some ms =>
        rw [e2] at h'
        cases h'
        have : x = .bl i := q1
        rw [this, Reps.bools q2 e2]
        rfl
    | _ => simp [allB, isBool] at h
/-- reading: SqL, SqT -/
theorem Rep.tup {ds : List Dt} {v : V} (r : Rep K W H (.tuple ds) v) : ∃ a xs, v = .ref a ∧ SqT K H a xs ∧ Reps K W H ds xs := by
  obtain ⟨a, xs, e, r, q⟩ := r
  refine ⟨a, xs, e, ?_, q⟩
  rcases r with ⟨r, _⟩ | r
  · exact .inl (.inl r)
  · exact .inr r
theorem Rep.mkTup {ds : List Dt} {xs : List V} {p : Addr} (h : H p = some (.tup xs)) (hw : ¬ W p) (r : Reps K W H ds xs) : Rep K W H (.tuple ds) (.ref p) := ⟨p, xs, rfl, .inl ⟨h, hw⟩, r⟩
theorem Rep.mkLst {ds : List Dt} {xs : List V} {p : Addr} (h : H p = some (.lst xs)) (hw : ¬ W p) (r : Reps K W H ds xs) : Rep K W H (.list ds) (.ref p) := ⟨p, xs, rfl, ⟨h, hw⟩, r⟩

mutual
def noDict : Dt → Bool
  | .dict _ => false
  | .list xs | .tuple xs => noDicts xs
  | _ => true
def noDicts : List Dt → Bool
  | [] => true
  | x :: xs => noDict x && noDicts xs
end
end
end Mini

end
section
set_option Elab.async false
set_option linter.all false
set_option maxRecDepth 100000
set_option maxHeartbeats 4000000
/-! Mini, part 3: how a frame's slots stand, what is changed. -/
namespace Mini
open PySem PySem.Spec PyProof.Rows L2
def srcKvs (c : Addr) (l m t : Int) : List (Key × V) := [(.inr "cells", .ref c), (.inr "left", .int l), (.inr "mixed", .int m), (.inr "turn", .int t)]
section
variable (K : PySem.W.Frag) (W : Addr → Prop) (H : Hp)
inductive SlotRep : Fl → V → Dt → List Addr → Prop
  | sh {v : V} {d : Dt} : Rep K W H d v → SlotRep .sh v d []
  | lst {a : Addr} {xs : List V} {ds : List Dt} : H a = some (.lst xs) → Reps K W H ds xs → SlotRep .own (.ref a) (.list ds) [a]
  | dct {a : Addr} {kvs : List (Key × V)} {es : List (Dt × Dt)} : H a = some (.dK kvs) → RepKv K W H es kvs → SlotRep .own (.ref a) (.dict es) [a]
  | src {a c : Addr} {ns : List Int} {l m t : Int} : H a = some (.dK (srcKvs c l m t)) → H c = some (.lst (ns.map .int)) → a ≠ c → SlotRep .src (.ref a) (srcD ns l m t) [a, c]
  | scr {a : Addr} {ns : List Int} : (∃ o, H a = some (.frz o (.lst (ns.map .int)))) ∨ LsK K a (ns.map .int) → SlotRep .src (.ref a) (.list (ns.map .int)) []
end
/-- a list, a dict stands there -/
def mu (H : Hp) (a : Addr) : Prop := (∃ xs, H a = some (.lst xs)) ∨ ∃ kvs, H a = some (.dK kvs)
theorem mu.ne {H : Hp} {a : Addr} (h : mu H a) : H a ≠ none := by
  rcases h with ⟨_, h⟩ | ⟨_, h⟩ <;> (rw [h]; exact Option.some_ne_none _)
abbrev Fs := Nat → List Addr
def Wt (S : Addr → Prop) (F : Fs) (a : Addr) : Prop := S a ∨ ∃ i, a ∈ F i
def addS (S : Addr → Prop) (A : List Addr) (a : Addr) : Prop := S a ∨ a ∈ A
def setF (F : Fs) (i : Nat) (A : List Addr) : Fs := fun j => if j = i then A else F j
theorem setF_same {F : Fs} {i : Nat} {A : List Addr} : setF F i A i = A := if_pos rfl
theorem setF_ne {F : Fs} {i j : Nat} {A : List Addr} (h : j ≠ i) : setF F i A j = F j := if_neg h
section
variable {K : PySem.W.Frag} {W W' : Addr → Prop} {H H' : Hp}
theorem SlotRep.mus {fl : Fl} {v : V} {d : Dt} {A : List Addr} (r : SlotRep K W H fl v d A) : ∀ a ∈ A, mu H a := by
  cases r with
  | sh _ => intro a h; cases h
  | lst h _ => intro a e; cases List.mem_singleton.mp e; exact .inl ⟨_, h⟩
  | dct h _ => intro a e; cases List.mem_singleton.mp e; exact .inr ⟨_, h⟩
  | src h h2 _ =>
    intro a e
    simp only [List.mem_cons, List.not_mem_nil, or_false] at e
    rcases e with rfl | rfl
    · exact .inr ⟨_, h⟩
    · exact .inl ⟨_, h2⟩
  | scr _ => intro a h; cases h
theorem SlotRep.step (h : ∀ b o, H b = some o → ¬ W b → H' b = some o) (h2 : ∀ a, W' a → W a ∨ H a = none) {fl : Fl} {v : V} {d : Dt} {A : List Addr} (r : SlotRep K W H fl v d A)
    (hA : ∀ a ∈ A, H' a = H a) (hw : ∀ a, W a → mu H a) : SlotRep K W' H' fl v d A := by
  cases r with
  | sh r => exact .sh (r.step h h2)
  | lst e r => exact .lst ((hA _ (List.mem_singleton.mpr rfl)).trans e) (r.step h h2)
  | dct e r => exact .dct ((hA _ (List.mem_singleton.mpr rfl)).trans e) (r.step h h2)
  | src e e2 ne => exact .src ((hA _ (by simp)).trans e) ((hA _ (by simp)).trans e2) ne
  | scr e =>
    refine .scr ?_
    rcases e with ⟨o, e⟩ | e
    · refine .inl ⟨o, h _ _ e fun z => ?_⟩
      rcases hw _ z with ⟨_, q⟩ | ⟨_, q⟩ <;> (rw [e] at q; cases q)
    · exact .inr e
/-- less to be kept away from -/
theorem SlotRep.mono {fl : Fl} {v : V} {d : Dt} {A : List Addr} (r : SlotRep K W H fl v d A) (h2 : ∀ a, W' a → W a) (hw : ∀ a, W a → mu H a) : SlotRep K W' H fl v d A :=
  r.step (fun _ _ e _ => e) (fun a z => .inl (h2 a z)) (fun _ _ => rfl) hw
/-- an owned value, kept as a shared one -/
theorem SlotRep.share {v : V} {d : Dt} {A : List Addr} {fl : Fl} (hf : keep? fl = true) (r : SlotRep K W H fl v d A) (h2 : ∀ a, W' a → W a) (hn : ∀ a ∈ A, ¬ W' a) : Rep K W' H d v := by
  have mo : ∀ a, W' a → W a ∨ H a = none := fun a z => .inl (h2 a z)
  have ke : ∀ b o, H b = some o → ¬ W b → H b = some o := fun _ _ e _ => e
  cases r with
  | sh r => exact r.step ke mo
  | lst e r => exact ⟨_, _, rfl, ⟨e, hn _ (List.mem_singleton.mpr rfl)⟩, r.step ke mo⟩
  | dct e r => exact ⟨_, _, rfl, ⟨e, hn _ (List.mem_singleton.mpr rfl)⟩, r.step ke mo⟩
  | src _ _ _ => cases hf
  | scr _ => cases hf
end
/-- the slots ρ stand at σ: F their own objects, S what else must not be touched -/
structure EnvOk (K : PySem.W.Frag) (S : Addr → Prop) (F : Fs) (ρ : En) (σ : L2.St) (H : Hp) : Prop where
  len : ρ.length = σ.length
  slot : ∀ i fl d, rd ρ i = some (fl, d) → ∃ v, σ[i]? = some (some v) ∧ SlotRep K (Wt S F) H fl v d (F i)
  emp : ∀ i, rd ρ i = none → F i = []
  dis : ∀ i j a, a ∈ F i → a ∈ F j → i = j
  ext : ∀ i a, a ∈ F i → ¬ S a
  wf : ∀ a, S a → mu H a
/-- what else than the slots' own objects stands as it stood; the new own ones are old own ones or new objects -/
structure Fr (F : Fs) (H : Hp) (F' : Fs) (H' : Hp) : Prop where
  keep : ∀ b o, H b = some o → (∀ i, b ∉ F i) → H' b = some o
  new : ∀ i b, b ∈ F' i → (∃ j, b ∈ F j) ∨ H b = none
  there : ∀ b, H b ≠ none → H' b ≠ none
theorem Fr.refl (F : Fs) (H : Hp) : Fr F H F H := ⟨fun _ _ e _ => e, fun i _ e => .inl ⟨i, e⟩, fun _ h => h⟩
theorem Fr.trans {F F1 F2 : Fs} {H H1 H2 : Hp} (a : Fr F H F1 H1) (b : Fr F1 H1 F2 H2) : Fr F H F2 H2 := by
  have old : ∀ c, (∃ i, c ∈ F1 i) → (∃ j, c ∈ F j) ∨ H c = none := fun c ⟨i, e⟩ => a.new i c e
  refine ⟨fun c o e n => b.keep c o (a.keep c o e n) fun i z => ?_, fun i c e => ?_, fun c h => b.there c (a.there c h)⟩
  · rcases a.new i c z with ⟨j, q⟩ | q
    · exact n j q
    · rw [q] at e; cases e
  · rcases b.new i c e with z | z
    · exact old c z
    · cases q : H c with
      | none => exact .inr rfl
      | some o => exact absurd z (a.there c (by rw [q]; exact Option.some_ne_none _))
section
variable {K : PySem.W.Frag} {S S' : Addr → Prop} {F F' : Fs} {ρ ρ' : En} {σ : L2.St} {H H' : Hp}
theorem EnvOk.wt (e : EnvOk K S F ρ σ H) : ∀ a, Wt S F a → mu H a := fun a h => by
  rcases h with h | ⟨i, h⟩
  · exact e.wf a h
  · cases q : rd ρ i with
    | none => rw [e.emp i q] at h; cases h
    | some sl =>
      obtain ⟨v, _, r⟩ := e.slot i sl.1 sl.2 q
      exact r.mus a h
theorem EnvOk.wfree (e : EnvOk K S F ρ σ H) {p : Addr} (h : H p = none) : ¬ Wt S F p := fun z => (e.wt p z).ne h
/-- all that is tracked is kept -/
theorem EnvOk.same (e : EnvOk K S F ρ σ H) (h : Same H H') : EnvOk K S F ρ σ H' := by
  refine ⟨e.len, fun i fl d q => ?_, e.emp, e.dis, e.ext, fun a z => ?_⟩
  · obtain ⟨v, hv, r⟩ := e.slot i fl d q
    refine ⟨v, hv, r.step (fun b o q _ => h b o q) (fun a z => .inl z) (fun a z => ?_) e.wt⟩
    rcases r.mus a z with ⟨_, q⟩ | ⟨_, q⟩ <;> (rw [q]; exact h _ _ q)
  · rcases e.wf a z with ⟨_, q⟩ | ⟨_, q⟩
    · exact .inl ⟨_, h _ _ q⟩
    · exact .inr ⟨_, h _ _ q⟩
theorem Fr.same (h : Same H H') : Fr F H F H' := ⟨fun b o e _ => h b o e, fun i _ e => .inl ⟨i, e⟩, fun b n z => by
  cases q : H b with
  | none => exact n q
  | some o => rw [h b o q] at z; cases z⟩
theorem same_upd {p : Addr} {o : HO} (h : H p = none) : Same H (upd H p o) := fun b u e => by
  rw [upd_ne (ne_of_none e h)]
  exact e
/-- a new value in a slot -/
theorem EnvOk.set {A : List Addr} {i : Nat} {fl : Fl} {d : Dt} {v : V} (e : EnvOk K (addS S A) F ρ σ H) (r : SlotRep K (Wt (addS S A) F) H fl v d A) (hi : i < ρ.length) (hS : ∀ a ∈ A, ¬ S a) :
    EnvOk K S (setF F i A) (ρ.set i (some (fl, d))) (σ.set i (some v)) H := by
  have sub : ∀ a, Wt S (setF F i A) a → Wt (addS S A) F a := fun a h => by
    rcases h with h | ⟨j, h⟩
    · exact .inl (.inl h)
    · by_cases hj : j = i
      · subst hj; rw [setF_same] at h; exact .inl (.inr h)
      · rw [setF_ne hj] at h; exact .inr ⟨j, h⟩
  have hrd : ∀ j, j ≠ i → rd (ρ.set i (some (fl, d))) j = rd ρ j := fun j hj => by
    unfold rd
    rw [List.getElem?_set_ne (Ne.symm hj)]
  have hrs : rd (ρ.set i (some (fl, d))) i = some (fl, d) := by
    unfold rd
    rw [List.getElem?_set_self hi]
    rfl
  refine ⟨by simp [e.len], fun j fl' d' q => ?_, fun j q => ?_, fun j k a h1 h2 => ?_, fun j a h => ?_, fun a h => e.wf a (.inl h)⟩
  · by_cases hj : j = i
    · subst hj
      rw [hrs] at q
      cases q
      rw [setF_same, List.getElem?_set_self (by rw [← e.len]; exact hi)]
      exact ⟨v, rfl, r.mono sub e.wt⟩
    · rw [hrd j hj] at q
      obtain ⟨v', hv, r'⟩ := e.slot j fl' d' q
      rw [setF_ne hj, List.getElem?_set_ne (Ne.symm hj)]
      exact ⟨v', hv, r'.mono sub e.wt⟩
  · by_cases hj : j = i
    · subst hj; rw [hrs] at q; cases q
    · rw [hrd j hj] at q
      rw [setF_ne hj]
      exact e.emp j q
  · by_cases hj : j = i
    · by_cases hk : k = i
      · rw [hj, hk]
      · subst hj
        rw [setF_same] at h1
        rw [setF_ne hk] at h2
        exact absurd (.inr h1) (e.ext k a h2)
    · by_cases hk : k = i
      · subst hk
        rw [setF_same] at h2
        rw [setF_ne hj] at h1
        exact absurd (.inr h2) (e.ext j a h1)
      · rw [setF_ne hj] at h1
        rw [setF_ne hk] at h2
        exact e.dis j k a h1 h2
  · by_cases hj : j = i
    · subst hj
      rw [setF_same] at h
      exact hS a h
    · rw [setF_ne hj] at h
      exact fun z => e.ext j a h (.inl z)
/-- a slot is let go: its own objects stand outside now -/
theorem EnvOk.drop (e : EnvOk K S F ρ σ H) (i : Nat) : EnvOk K (addS S (F i)) (setF F i []) (ρ.set i none) σ H := by
  have sub : ∀ a, Wt (addS S (F i)) (setF F i []) a → Wt S F a := fun a h => by
    rcases h with (h | h) | ⟨j, h⟩
    · exact .inl h
    · exact .inr ⟨i, h⟩
    · by_cases hj : j = i
      · subst hj; rw [setF_same] at h; cases h
      · rw [setF_ne hj] at h; exact .inr ⟨j, h⟩
  have hrd : ∀ j, j ≠ i → rd (ρ.set i none) j = rd ρ j := fun j hj => by
    unfold rd
    rw [List.getElem?_set_ne (Ne.symm hj)]
  have hrs : rd (ρ.set i none) i = none := by
    unfold rd
    by_cases h : i < ρ.length
    · rw [List.getElem?_set_self h]; rfl
    · rw [List.getElem?_eq_none (by simp; omega)]; rfl
  refine ⟨by simp [e.len], fun j fl' d' q => ?_, fun j q => ?_, fun j k a h1 h2 => ?_, fun j a h => ?_, fun a h => e.wt a ?_⟩
  · by_cases hj : j = i
    · subst hj; rw [hrs] at q; cases q
    · rw [hrd j hj] at q
      obtain ⟨v', hv, r'⟩ := e.slot j fl' d' q
      rw [setF_ne hj]
      exact ⟨v', hv, r'.mono sub e.wt⟩
  · by_cases hj : j = i
    · subst hj; exact setF_same
    · rw [hrd j hj] at q
      rw [setF_ne hj]
      exact e.emp j q
  · by_cases hj : j = i
    · subst hj; rw [setF_same] at h1; cases h1
    · by_cases hk : k = i
      · subst hk; rw [setF_same] at h2; cases h2
      · rw [setF_ne hj] at h1
        rw [setF_ne hk] at h2
        exact e.dis j k a h1 h2
  · by_cases hj : j = i
    · subst hj; rw [setF_same] at h; cases h
    · rw [setF_ne hj] at h
      rintro (z | z)
      · exact e.ext j a h z
      · exact hj (e.dis j i a h z)
  · rcases h with h | h
    · exact .inl h
    · exact .inr ⟨i, h⟩
/-- fewer things outside -/
theorem EnvOk.weak (e : EnvOk K S F ρ σ H) (h : ∀ a, S' a → S a) : EnvOk K S' F ρ σ H := by
  have sub : ∀ a, Wt S' F a → Wt S F a := fun a q => q.imp (h a) id
  refine ⟨e.len, fun i fl d q => ?_, e.emp, e.dis, fun i a z q => e.ext i a z (h a q), fun a z => e.wf a (h a z)⟩
  obtain ⟨v, hv, r⟩ := e.slot i fl d q
  exact ⟨v, hv, r.mono sub e.wt⟩
theorem addS_nil {a : Addr} : addS S [] a ↔ S a := ⟨fun h => Or.elim h id (fun z => by cases z), fun h => Or.inl h⟩
theorem EnvOk.nil (e : EnvOk K S F ρ σ H) : EnvOk K (addS S []) F ρ σ H := by
  have : addS S [] = S := funext fun a => propext addS_nil
  rw [this]
  exact e
theorem EnvOk.unnil (e : EnvOk K (addS S []) F ρ σ H) : EnvOk K S F ρ σ H := e.weak fun _ => .inl
/-- the object of an owned slot is changed -/
theorem EnvOk.put {i : Nat} {a : Addr} {o : HO} {fl : Fl} {d : Dt} {v : V} (e : EnvOk K S F ρ σ H) (hi : i < ρ.length) (ha : a ∈ F i) (hv : σ[i]? = some (some v)) (ho : mu (upd H a o) a)
    (r : SlotRep K (Wt S F) (upd H a o) fl v d (F i)) : EnvOk K S F (ρ.set i (some (fl, d))) σ (upd H a o) := by
  have ke : ∀ b u, H b = some u → ¬ Wt S F b → upd H a o b = some u := fun b u q n => by
    rw [upd_ne fun z => n (.inr ⟨i, by rw [z]; exact ha⟩)]
    exact q
  have hrd : ∀ j, j ≠ i → rd (ρ.set i (some (fl, d))) j = rd ρ j := fun j hj => by
    unfold rd
    rw [List.getElem?_set_ne (Ne.symm hj)]
  have hrs : rd (ρ.set i (some (fl, d))) i = some (fl, d) := by
    unfold rd
    rw [List.getElem?_set_self hi]
    rfl
  refine ⟨by simp [e.len], fun j fl' d' q => ?_, fun j q => ?_, e.dis, e.ext, fun b z => ?_⟩
  · by_cases hj : j = i
    · subst hj
      rw [hrs] at q
      cases q
      exact ⟨v, hv, r⟩
    · rw [hrd j hj] at q
      obtain ⟨v', hv', r'⟩ := e.slot j fl' d' q
      refine ⟨v', hv', r'.step ke (fun _ z => .inl z) (fun b hb => upd_ne fun z => ?_) e.wt⟩
      rw [z] at hb
      exact hj (e.dis j i a hb ha)
  · by_cases hj : j = i
    · subst hj; rw [hrs] at q; cases q
    · rw [hrd j hj] at q
      exact e.emp j q
  · have hb : b ≠ a := fun q => e.ext i a ha (by rw [← q]; exact z)
    rcases e.wf b z with ⟨_, q⟩ | ⟨_, q⟩
    · exact .inl ⟨_, by rw [upd_ne hb]; exact q⟩
    · exact .inr ⟨_, by rw [upd_ne hb]; exact q⟩
theorem Fr.put {i : Nat} {a : Addr} {o : HO} (ha : a ∈ F i) : Fr F H F (upd H a o) :=
  ⟨fun b u q n => by rw [upd_ne fun z => n i (by rw [z]; exact ha)]; exact q, fun i _ q => .inl ⟨i, q⟩, fun b h z => by
    by_cases hb : b = a
    · subst hb; rw [upd_same] at z; cases z
    · rw [upd_ne hb] at z; exact h z⟩
end
end Mini

end
section
set_option Elab.async false
set_option linter.all false
set_option maxRecDepth 100000
set_option maxHeartbeats 4000000
/-! Mini, part 4: operators by values. -/
namespace Mini
open PySem PySem.Spec PyProof.Rows L2
section
variable (K : PySem.W.Frag) (W : Addr → Prop) (H : Hp)
/-- v is to be read as the data: its own object may be anybody's, what is within is not at W -/
def RdW : Dt → V → Prop
  | .list ds, v => ∃ a xs, v = .ref a ∧ H a = some (.lst xs) ∧ Reps K W H ds xs
  | .tuple ds, v => Rep K W H (.tuple ds) v
  | .dict es, v => ∃ a kvs, v = .ref a ∧ H a = some (.dK kvs) ∧ RepKv K W H es kvs
  | .none, v => v = .non
  | .bool b, v => v = .bl b
  | .int i, v => v = .int i
  | .str x, v => v = .str x
/-- a value that an operator has made -/
inductive NewV : Sl → V → Hp → Prop
  | old {d : Dt} {v : V} : Rep K W H d v → NewV (.sh, d) v H
  | lst {p : Addr} {ds : List Dt} {xs : List V} : H p = none → Reps K W H ds xs → NewV (.own, .list ds) (.ref p) (upd H p (.lst xs))
  | tup {p : Addr} {ds : List Dt} {xs : List V} : H p = none → Reps K W H ds xs → NewV (.sh, .tuple ds) (.ref p) (upd H p (.tup xs))
end
def rMk (K : PySem.W.Frag) (g : Dt → Dt → Option Sl) : R2 := fun x y H Q => ∃ W d e z, RdW K W H d x ∧ RdW K W H e y ∧ g d e = some z ∧ ∀ v H', NewV K W H z v H' → Q v H'
def rMk1 (K : PySem.W.Frag) (g : Dt → Option Sl) : List V → Hp → VK → Prop := fun xs H Q => ∃ W d z x, xs = [x] ∧ RdW K W H d x ∧ g d = some z ∧ ∀ v H', NewV K W H z v H' → Q v H'
def rMk2 (K : PySem.W.Frag) (g : Dt → Dt → Option Sl) : List V → Hp → VK → Prop := fun xs H Q => ∃ W d e z x y, xs = [x, y] ∧ RdW K W H d x ∧ RdW K W H e y ∧ g d e = some z ∧ ∀ v H', NewV K W H z v H' → Q v H'
section
variable {K : PySem.W.Frag} {W : Addr → Prop} {H : Hp}
theorem Rep.rd : ∀ {d : Dt} {v : V}, Rep K W H d v → RdW K W H d v
  | .none, _, r => r
  | .bool _, _, r => r
  | .int _, _, r => r
  | .str _, _, r => r
  | .list _, _, ⟨a, xs, e, ⟨r, _⟩, q⟩ => ⟨a, xs, e, r, q⟩
  | .tuple _, _, r => r
  | .dict _, _, ⟨a, xs, e, ⟨r, _⟩, q⟩ => ⟨a, xs, e, r, q⟩
mutual
theorem Rep.dp : ∀ {d : Dt} {v : V}, noDict d = true → Rep K W H d v → Dp K H v d
  | .none, _, _, r => by rw [show _ = V.non from r]; exact .non
  | .bool b, _, _, r => by rw [show _ = V.bl b from r]; exact .bl b
  | .int i, _, _, r => by rw [show _ = V.int i from r]; exact .int i
  | .str x, _, _, r => by rw [show _ = V.str x from r]; exact .str x
  | .list ds, _, n, ⟨a, xs, e, ⟨r, _⟩, q⟩ => by subst e; exact .lst (SqL.of r) (Reps.dp (by simpa [noDict] using n) q)
  | .tuple ds, _, n, ⟨a, xs, e, r, q⟩ => by
    subst e
    refine .tup ?_ (Reps.dp (by simpa [noDict] using n) q)
    rcases r with ⟨r, _⟩ | r
    · exact SqT.of r
    · exact .inr r
  | .dict _, _, n, _ => by simp [noDict] at n
theorem Reps.dp : ∀ {ds : List Dt} {xs : List V}, noDicts ds = true → Reps K W H ds xs → DpAll K H xs ds
  | [], _, _, r => by rw [show _ = _ from r]; exact .nil
  | d :: ds, _, n, ⟨x, r, e, q1, q2⟩ => by
    subst e
    have n' : noDict d = true ∧ noDicts ds = true := by simpa [noDicts] using n
    exact .cons (Rep.dp n'.1 q1) (Reps.dp n'.2 q2)
end
theorem RdW.dp : ∀ {d : Dt} {v : V}, noDict d = true → RdW K W H d v → Dp K H v d
  | .none, _, _, r => by rw [show _ = V.non from r]; exact .non
  | .bool b, _, _, r => by rw [show _ = V.bl b from r]; exact .bl b
  | .int i, _, _, r => by rw [show _ = V.int i from r]; exact .int i
  | .str x, _, _, r => by rw [show _ = V.str x from r]; exact .str x
  | .list ds, _, n, ⟨a, xs, e, r, q⟩ => by subst e; exact .lst (SqL.of r) (Reps.dp (by simpa [noDict] using n) q)
  | .tuple ds, _, n, r => Rep.dp n r
  | .dict _, _, n, _ => by simp [noDict] at n
mutual
theorem noDict_of : ∀ {d : Dt}, d.canLay0 = true → noDict d = true
  | .none, _ => rfl
  | .bool _, _ => rfl
  | .int _, _ => rfl
  | .str _, _ => rfl
  | .list ds, h => by simp only [noDict]; exact noDicts_of (by simpa [PyData.canLay0] using h)
  | .tuple ds, h => by simp only [noDict]; exact noDicts_of (by simpa [PyData.canLay0] using h)
  | .dict _, h => by simp [PyData.canLay0] at h
theorem noDicts_of : ∀ {ds : List Dt}, PyData.canLayAll0 ds = true → noDicts ds = true
  | [], _ => rfl
  | d :: ds, h => by
    have h' : d.canLay0 = true ∧ PyData.canLayAll0 ds = true := by simpa [PyData.canLayAll0] using h
    simp only [noDicts, Bool.and_eq_true]
    exact ⟨noDict_of h'.1, noDicts_of h'.2⟩
end
theorem noDict_flat {d : Dt} (h : flat d = true) : noDict d = true := noDict_of (SeqAt.canLay_of_shaped h)
theorem lim_line {n : Nat} (h : n ≤ lim) : n ≤ sizeLine := Nat.le_trans h (by decide)
theorem RdW.seq {ds : List Dt} : ∀ {d : Dt} {v : V}, seqOf d = some ds → RdW K W H d v → ∃ a xs, v = .ref a ∧ (SqT K H a xs ∨ SqL K H a xs) ∧ Reps K W H ds xs
  | .list es, _, h, ⟨a, xs, e, r, q⟩ => by cases (show some es = some ds from h); exact ⟨a, xs, e, .inr (SqL.of r), q⟩
  | .tuple es, _, h, r => by
    cases (show some es = some ds from h)
    obtain ⟨a, xs, e, r, q⟩ := r.tup
    exact ⟨a, xs, e, .inl r, q⟩
end
section
variable {X : Cx}
def boOp : Bo → Operator
  | .add => .Add | .sub => .Sub | .mul => .Mult | .fdiv => .FloorDiv | .mod => .Mod | .pow => .Pow | .shl => .LShift
theorem mul_ok {i j : Int} (h : mulOk i j = true) : IntMulOk i j := by
  unfold mulOk at h
  simp only [Bool.or_eq_true, decide_eq_true_eq] at h
  rcases h with (h | h) | h
  · exact CMul.ok (.inl (by omega))
  · exact CMul.ok (.inr (by omega))
  · exact CMulW.ok h
theorem op_mulM : OpR X (binaryOp .Mult) (rI (fun i j => mulOk i j = true) fun i j => .int (i * j)) := opI fun _ _ _ _ _ _ _ hc q => mul_int q (mul_ok hc)
theorem op_fdivM : OpR X (binaryOp .FloorDiv) (rI (fun _ j => divOk j = true) fun i j => .int (i.fdiv j)) := opI fun i j _ _ _ _ _ hc q => by
  unfold divOk at hc
  simp only [Bool.and_eq_true, decide_eq_true_eq] at hc
  exact floordiv_int hc.1 q (.inl (PyProof.noPylong_of_log2 hc.2))
theorem op_bin (o : Bo) : OpR X (binaryOp (boOp o)) (rMk X.K (binD o)) := by
  intro pins s σ H x y v u Q I rx ry h
  obtain ⟨W, d, e, z, h1, h2, h3, h4⟩ := h
  unfold binD at h3
  split at h3
  · cases (show x = _ from h1); cases (show y = _ from h2)
    cases h3
    exact op_add pins s σ H _ _ v u Q I rx ry ⟨_, _, rfl, rfl, h4 _ _ (.old rfl)⟩
  · cases (show x = _ from h1); cases (show y = _ from h2)
    split at h3 <;> cases h3
    exact op_add_str pins s σ H _ _ v u Q I rx ry ⟨_, _, rfl, rfl, lim_line (by assumption), h4 _ _ (.old rfl)⟩
  · obtain ⟨a, xs, rfl, r1, q1⟩ := h1
    obtain ⟨b, ys, rfl, r2, q2⟩ := h2
    split at h3 <;> cases h3
    rename_i hl
    rw [q1.length, q2.length] at hl
    exact op_cat pins s σ H _ _ v u Q I rx ry ⟨_, _, _, _, rfl, rfl, r1, r2, lim_line hl, fun p np => h4 _ _ (.lst np (q1.append q2))⟩
  · have k1 : Rep X.K W H _ x := h1
    have k2 : Rep X.K W H _ y := h2
    obtain ⟨a, xs, rfl, r1, q1⟩ := k1.tup
    obtain ⟨b, ys, rfl, r2, q2⟩ := k2.tup
    split at h3 <;> cases h3
    rename_i hl
    have l1 := q1.length
    have l2 := q2.length
    rw [l1, l2] at hl
    refine op_catA pins s σ H _ _ v u Q I rx ry ⟨_, _, _, _, rfl, rfl, r1, r2, lim_line hl, fun e1 => ?_, fun _ e2 => ?_, fun _ _ p np => h4 _ _ (.tup np (q1.append q2))⟩
    · subst e1
      have e : _ = [] := List.eq_nil_of_length_eq_zero l1
      rw [e, List.nil_append] at h4
      exact h4 _ _ (.old k2)
    · subst e2
      have e : _ = [] := List.eq_nil_of_length_eq_zero l2
      rw [e, List.append_nil] at h4
      exact h4 _ _ (.old k1)
  · cases (show x = _ from h1); cases (show y = _ from h2)
    cases h3
    exact op_sub pins s σ H _ _ v u Q I rx ry ⟨_, _, rfl, rfl, h4 _ _ (.old rfl)⟩
  · cases (show x = _ from h1); cases (show y = _ from h2)
    split at h3 <;> cases h3
    exact op_mulM pins s σ H _ _ v u Q I rx ry ⟨_, _, rfl, rfl, by assumption, h4 _ _ (.old rfl)⟩
  · obtain ⟨a, xs, rfl, r1, q1⟩ := h1
    cases (show y = _ from h2)
    split at h3 <;> cases h3
    rename_i hl
    rw [q1.length] at hl
    exact op_rep pins s σ H _ _ v u Q I rx ry ⟨_, _, _, rfl, rfl, r1, by omega, by omega, lim_line hl.1, fun p np => h4 _ _ (.lst np (q1.rep _))⟩
  · cases (show x = _ from h1); cases (show y = _ from h2)
    split at h3 <;> cases h3
    exact op_fdivM pins s σ H _ _ v u Q I rx ry ⟨_, _, rfl, rfl, by assumption, h4 _ _ (.old rfl)⟩
  · cases (show x = _ from h1); cases (show y = _ from h2)
    split at h3 <;> cases h3
    exact op_modN pins s σ H _ _ v u Q I rx ry ⟨_, _, rfl, rfl, by assumption, h4 _ _ (.old rfl)⟩
  · cases (show x = _ from h1); cases (show y = _ from h2)
    split at h3 <;> cases h3
    exact op_pow pins s σ H _ _ v u Q I rx ry ⟨_, _, rfl, rfl, by assumption, h4 _ _ (.old rfl)⟩
  · cases (show x = _ from h1); cases (show y = _ from h2)
    split at h3 <;> cases h3
    exact op_shl pins s σ H _ _ v u Q I rx ry ⟨_, _, rfl, rfl, by assumption, h4 _ _ (.old rfl)⟩
  · cases h3
end
end Mini

end
section
set_option Elab.async false
set_option linter.all false
set_option maxRecDepth 100000
set_option maxHeartbeats 4000000
/-! Mini, part 5: comparisons, subscripts, cuts, built-in functions by values. -/
namespace Mini
open PySem PySem.Spec PyProof.Rows L2
section
variable {prog : Program} {w : World} {A : Around} {E : Value → Shared → Prop} {s : Shared}
theorem rev_applied {sl : Addr} {vl vu vs : Value} {n : Nat} {Q : Int × Int × Nat → Shared → Prop} (hs : s.heap.IsSliceOf sl vl vu vs) (pl : IsPart vl none) (pu : IsPart vu none) (ps : IsPart vs (some (-1)))
    (h : Q ((n : Int) - 1, -1, n) s) : wpAny (model prog w) A (Builtin.Slice.sliceApplied (.ref sl) (pure (n : Int))) Q E s := by
  obtain ⟨ob, hob, _, hdt⟩ := id hs
  unfold Builtin.Slice.sliceApplied Builtin.Slice.sliceFields
  refine wpAny_bind (wpAny_bind (wpAny_field hob hdt (x := vl) rfl (wpAny_bind (wpAny_field hob hdt (x := vu) rfl (wpAny_bind (wpAny_field hob hdt (x := vs) rfl (wpAny_pure ?_)))))))
  refine wpAny_bind (HT.slicePart_ ps ?_)
  show wpAny _ _ (if ((-1 : Int) == 0) = true then _ else _) _ _ s
  rw [if_neg (by decide)]
  refine wpAny_bind (HT.slicePart_ pl (wpAny_bind (HT.slicePart_ pu (wpAny_bind (wpAny_pure ?_)))))
  have e1 : Builtin.Slice.sliceAdjust none none (-1) (n : Int) = ((n : Int) - 1, -1) := rfl
  have e2 : Builtin.Slice.slicePlaces ((n : Int) - 1) (-1) (-1) = n := by
    unfold Builtin.Slice.slicePlaces
    rw [if_neg (by decide)]
    by_cases h0 : n = 0
    · subst h0; rfl
    · rw [if_pos (by omega)]
      have : (-(-1 : Int)) = 1 := rfl
      rw [this, Int.ediv_one]
      omega
  show wpAny _ _ (match Builtin.Slice.sliceAdjust none none (-1) (n : Int) with | (lo, hi) => pure (lo, (-1 : Int), Builtin.Slice.slicePlaces lo hi (-1))) _ _ s
  rw [e1]
  show wpAny _ _ (pure (((n : Int) - 1), (-1 : Int), Builtin.Slice.slicePlaces ((n : Int) - 1) (-1) (-1))) _ _ s
  rw [e2]
  exact wpAny_pure h
theorem fm_congr {α β : Type} {f g : α → Option β} : ∀ {l : List α}, (∀ a ∈ l, f a = g a) → l.filterMap f = l.filterMap g
  | [], _ => rfl
  | a :: l, h => by
    rw [List.filterMap_cons, List.filterMap_cons, h a (List.mem_cons_self ..), fm_congr fun b hb => h b (List.mem_cons_of_mem _ hb)]
theorem rev_pick (xs : Array Value) : ((List.range xs.size).filterMap fun (k : Nat) => xs[(((xs.size : Nat) : Int) - 1 + (k : Int) * (-1)).toNat]?).toArray = xs.toList.reverse.toArray := by
  have e : ∀ k, k ∈ List.range xs.size → xs[(((xs.size : Nat) : Int) - 1 + (k : Int) * (-1)).toNat]? = xs[xs.size - 1 - k]? := fun k hk => by
    have h := List.mem_range.mp hk
    have : (((xs.size : Nat) : Int) - 1 + (k : Int) * (-1)).toNat = xs.size - 1 - k := by omega
    rw [this]
  rw [fm_congr e]
  have e2 : (List.range xs.size).filterMap (fun k => xs[xs.size - 1 - k]?) = ((List.range xs.size).map fun k => xs.size - 1 - k).filterMap (xs[·]?) := by
    rw [List.filterMap_map]
    rfl
  rw [e2, PySem.W.krv_range, List.filterMap_reverse, PySem.W.krv_all]
theorem getItem_tuple_rev {t sl : Addr} {items : Array Value} {vl vu vs : Value} {Q : Value → Shared → Prop} (ht : IsTup s.heap t items) (hs : s.heap.IsSliceOf sl vl vu vs) (pl : IsPart vl none) (pu : IsPart vu none) (ps : IsPart vs (some (-1)))
    (h : Q (.ref s.heap.objs.size) { s with heap := s.heap.push { cls := .type "tuple", data := .seq items.toList.reverse.toArray } }) (hsz : items.size ≤ sizeLine) : wpAny (model prog w) A (getItem (.ref t) (.ref sl)) Q E s := by
  have hok : sizeOk (.seq items.toList.reverse.toArray) := by
    show items.toList.reverse.toArray.size ≤ sizeLine
    simpa using hsz
  obtain ⟨ob, hob, hcl, _⟩ := id hs
  have hTs : s.TypeIs (.ref sl) "slice" := ⟨ob, hob, hcl⟩
  unfold getItem
  try with_reducible refine wpAny_holding ?_
  first | refine wpAny_bind (wpAny_pure ?_) | skip
  refine wpAny_bind (wpAny_sequenceKey ht.typeIs (by decide) ?_)
  refine wpAny_bind (wpAny_callSpecial?_slot (name := Str.ofString "__getitem__") ht.typeIs PyProof.Rows.slot_tuple_getitem
    (wpAny_call_entry PyProof.Rows.slot_tuple_getitem ht.typeIs entry_tuple_getitem ?_ (args_tuple_getitem _ _)))
  show wpAny _ _ (Builtin.Tuple.tupleItemsOf (.ref t) >>= _) _ _ s
  refine wpAny_bind (tupleItemsOf_ ht ?_)
  refine wpAny_bind (wpAny_typeOf hTs ?_)
  rw [if_pos (by decide)]
  refine wpAny_bind (rev_applied hs pl pu ps ?_)
  have hno : ¬ (((((items.size : Nat) : Int) - 1) == 0 && (-1 : Int) == 1 && items.size == items.size) = true) := by
    intro q
    rw [Bool.and_eq_true, Bool.and_eq_true] at q
    exact absurd q.1.2 (by decide)
  show wpAny _ _ (if ((((items.size : Nat) : Int) - 1) == 0 && (-1 : Int) == 1 && items.size == items.size) = true then _ else _) _ _ s
  rw [if_neg hno, rev_pick]
  first
    | exact wpAny_bind (m := Builtin.Tuple.tupleExact _) (wpAny_newObj_type (wpAny_pure ⟨_, rfl, wpAny_pure h⟩) hok)
    | exact wpAny_bind (m := Builtin.Tuple.tupleExact _) (wpAny_newObj_type (wpAny_bind (wpAny_pure (wpAny_pure ⟨_, rfl, wpAny_pure h⟩))) hok)
    | exact wpAny_bind (wpAny_bind (m := Builtin.Tuple.tupleExact _) (wpAny_newObj_type (wpAny_pure (wpAny_pure ⟨_, rfl, wpAny_pure h⟩)) hok))
    | exact wpAny_bind (wpAny_bind (m := Builtin.Tuple.tupleExact _) (wpAny_newObj_type (wpAny_pure ⟨_, rfl, wpAny_pure h⟩) hok))
end
section
variable {X : Cx}
def coOp : Co → CmpOp
  | .lt => .Lt | .le => .LtE | .gt => .Gt | .ge => .GtE | .eq => .Eq | .ne => .NotEq | .isN => .Is | .notN => .IsNot | .inn => .In | .nin => .NotIn
abbrev cmpS (o : Co) : Dt → Dt → Option Sl := fun d e => (cmpD o d e).map fun b => (.sh, .bool b)
theorem op_cmp (hu : X.A.units + 65 < cLine) (o : Co) : OpR X (compareOp (coOp o)) (rMk X.K (cmpS o)) := by
  intro pins s σ H x y v u Q I rx ry h
  obtain ⟨W, d, e, z, h1, h2, h3, h4⟩ := h
  obtain ⟨b, h6, e6⟩ := Option.map_eq_some_iff.mp h3
  subst e6
  clear h3
  have h3 := h6
  have h5 := h4 (.bl b) H (.old rfl)
  unfold cmpD at h3
  split at h3
  · cases (show x = _ from h1); cases (show y = _ from h2)
    cases h3
    exact op_lt pins s σ H _ _ v u Q I rx ry ⟨_, _, rfl, rfl, h5⟩
  · cases (show x = _ from h1); cases (show y = _ from h2)
    cases h3
    exact op_le pins s σ H _ _ v u Q I rx ry ⟨_, _, rfl, rfl, h5⟩
  · cases (show x = _ from h1); cases (show y = _ from h2)
    cases h3
    exact op_gt pins s σ H _ _ v u Q I rx ry ⟨_, _, rfl, rfl, h5⟩
  · cases (show x = _ from h1); cases (show y = _ from h2)
    cases h3
    exact op_ge pins s σ H _ _ v u Q I rx ry ⟨_, _, rfl, rfl, h5⟩
  · cases (show x = _ from h1); cases (show y = _ from h2)
    cases h3
    refine op_eq pins s σ H _ _ v u Q I rx ry ⟨rfl, ?_⟩
    rw [dec_int, Bool.beq_eq_decide_eq]
    exact h5
  · cases (show x = _ from h1); cases (show y = _ from h2)
    cases h3
    refine op_ne pins s σ H _ _ v u Q I rx ry ⟨rfl, ?_⟩
    rw [dec_int, Bool.beq_eq_decide_eq]
    exact h5
  · cases (show x = _ from h1); cases (show y = _ from h2)
    cases h3
    refine op_eq pins s σ H _ _ v u Q I rx ry ⟨rfl, ?_⟩
    simpa using h5
  · cases (show x = _ from h1); cases (show y = _ from h2)
    cases h3
    refine op_ne pins s σ H _ _ v u Q I rx ry ⟨rfl, ?_⟩
    simpa using h5
  · split at h3 <;> cases h3
    rename_i hf
    rw [Bool.and_eq_true] at hf
    exact op_eqD (by omega) pins s σ H x y v u Q I rx ry ⟨_, _, h1.dp (noDict_flat hf.1), h2.dp (noDict_flat hf.2), hf.1, hf.2, h5⟩
  · split at h3 <;> cases h3
    rename_i hf
    rw [Bool.and_eq_true] at hf
    exact op_neD (by omega) pins s σ H x y v u Q I rx ry ⟨_, _, h1.dp (noDict_flat hf.1), h2.dp (noDict_flat hf.2), hf.1, hf.2, h5⟩
  · cases (show x = _ from h1); cases (show y = _ from h2)
    cases h3
    exact op_isN pins s σ H _ _ v u Q I rx ry ⟨rfl, h5⟩
  · cases (show x = _ from h1); cases (show y = _ from h2)
    cases h3
    exact op_isN pins s σ H _ _ v u Q I rx ry ⟨rfl, h5⟩
  · obtain ⟨a, xs, rfl, _⟩ := h1
    cases (show y = _ from h2)
    cases h3
    exact op_isN pins s σ H _ _ v u Q I rx ry ⟨rfl, h5⟩
  · obtain ⟨a, xs, rfl, _⟩ := h1
    cases (show y = _ from h2)
    cases h3
    exact op_isN pins s σ H _ _ v u Q I rx ry ⟨rfl, h5⟩
  · cases (show x = _ from h1); cases (show y = _ from h2)
    cases h3
    exact op_isN pins s σ H _ _ v u Q I rx ry ⟨rfl, h5⟩
  · cases (show x = _ from h1); cases (show y = _ from h2)
    cases h3
    exact op_isN pins s σ H _ _ v u Q I rx ry ⟨rfl, h5⟩
  · cases (show x = _ from h1); cases (show y = _ from h2)
    cases h3
    exact op_notN pins s σ H _ _ v u Q I rx ry ⟨rfl, h5⟩
  · cases (show x = _ from h1); cases (show y = _ from h2)
    cases h3
    exact op_notN pins s σ H _ _ v u Q I rx ry ⟨rfl, h5⟩
  · obtain ⟨a, xs, rfl, _⟩ := h1
    cases (show y = _ from h2)
    cases h3
    exact op_notN pins s σ H _ _ v u Q I rx ry ⟨rfl, h5⟩
  · obtain ⟨a, xs, rfl, _⟩ := h1
    cases (show y = _ from h2)
    cases h3
    exact op_notN pins s σ H _ _ v u Q I rx ry ⟨rfl, h5⟩
  · cases (show x = _ from h1); cases (show y = _ from h2)
    cases h3
    exact op_notN pins s σ H _ _ v u Q I rx ry ⟨rfl, h5⟩
  · cases (show x = _ from h1); cases (show y = _ from h2)
    cases h3
    exact op_notN pins s σ H _ _ v u Q I rx ry ⟨rfl, h5⟩
  · unfold inD at h3
    split at h3
    · split at h3 <;> cases h3
      rename_i hf
      rw [Bool.and_eq_true] at hf
      exact op_inD hu pins s σ H x y v u Q I rx ry ⟨_, _, h1.dp (noDict_flat hf.1), h2.dp (noDict_flat hf.2), hf.1, hf.2, h5⟩
    · cases h3
  · unfold inD at h3
    split at h3
    · split at h3
      · rename_i hf
        cases h3
        rw [Bool.and_eq_true] at hf
        exact op_notInD hu pins s σ H x y v u Q I rx ry ⟨_, _, h1.dp (noDict_flat hf.1), h2.dp (noDict_flat hf.2), hf.1, hf.2, h5⟩
      · cases h3
    · cases h3
  · cases h3

/-! ### subscripts -/
theorem Reps.atI {K : PySem.W.Frag} {W : Addr → Prop} {H : Hp} {ds : List Dt} {xs : List V} {i : Int} {d : Dt} (r : Reps K W H ds xs) (h : ixD ds i = some d) : ∃ x, L2.atI xs i = some x ∧ Rep K W H d x := by
  unfold ixD L2.atI at h
  obtain ⟨j, h1, h2⟩ := Option.bind_eq_some_iff.mp h
  obtain ⟨x, h3, h4⟩ := r.get h2
  refine ⟨x, ?_, h4⟩
  unfold L2.atI
  rw [← r.length, h1]
  exact h3
theorem keyOf {d : Dt} (h : isKey d = true) : ∃ k, d = keyD k := by
  cases d with
  | int i => exact ⟨.inl i, rfl⟩
  | str x => exact ⟨.inr x, rfl⟩
  | _ => cases h
theorem eqK_key (k j : Key) : eqK (keyD k) (keyD j) = decide (k = j) := by
  cases k <;> cases j <;> simp [eqK, keyD]
theorem RepKv.get {K : PySem.W.Frag} {W : Addr → Prop} {H : Hp} {k : Key} : ∀ {es : List (Dt × Dt)} {kvs : List (Key × V)}, RepKv K W H es kvs → (kvGet es (keyD k) = none ∧ valV kvs k = none) ∨ ∃ d v, kvGet es (keyD k) = some d ∧ valV kvs k = some v ∧ Rep K W H d v
  | [], _, r => by rw [show _ = _ from r]; exact .inl ⟨rfl, rfl⟩
  | (kd, d) :: es, _, ⟨j, v, q, e, e1, r, rs⟩ => by
    subst e e1
    by_cases hj : j = k
    · subst hj
      refine .inr ⟨d, v, ?_, ?_, r⟩
      · simp [kvGet, eqK_key]
      · exact valV_pos rfl
    · have e1 : kvGet ((keyD j, d) :: es) (keyD k) = kvGet es (keyD k) := by simp [kvGet, eqK_key, hj]
      rw [e1, valV_neg (p := (j, v)) hj]
      exact RepKv.get rs
theorem isKey_V {K : PySem.W.Frag} {W : Addr → Prop} {H : Hp} {k : Key} {y : V} (h : RdW K W H (keyD k) y) : y = kV k := by
  cases k <;> exact h
theorem ix_dict : IxR X (fun x y H Q => ∃ a v, x = .ref a ∧ DGet H a y (some v) ∧ X.A.units + 1 < cLine ∧ Q v H) := by
  intro value slice pins s σ H x y v u Q I rx ry h hs
  obtain ⟨a, z, rfl, g, hu, q⟩ := h
  cases rx
  refine tail_any (dict_typeIs I g) PySem.F.slot_dict_getitem.lookup ?_ hs
  exact d_getItem hu I g ry fun w' s3 I3 rw' => ⟨z, H, I3, rw', q⟩
abbrev idxS : Dt → Dt → Option Sl := fun d e => (idxD d e).map fun z => (.sh, z)
theorem ix_mini (hu : X.A.units + 1 < cLine) : IxR X (rMk X.K idxS) := by
  intro value slice pins s σ H x y v u Q I rx ry h hs
  obtain ⟨W, d, e, z, h1, h2, h3, h4⟩ := h
  obtain ⟨b, h6, e6⟩ := Option.map_eq_some_iff.mp h3
  subst e6
  clear h3
  have h3 := h6
  unfold idxD at h3
  split at h3
  · obtain ⟨a, xs, rfl, r1, q1⟩ := h1
    cases (show y = _ from h2)
    obtain ⟨c, hc, rc⟩ := q1.atI h3
    exact ix_list value slice pins s σ H _ _ v u Q I rx ry ⟨_, _, _, _, rfl, rfl, SqL.of r1, hc, h4 _ _ (.old rc)⟩ hs
  · have h1' : Rep X.K W H _ x := h1
    obtain ⟨a, xs, rfl, r1, q1⟩ := h1'.tup
    cases (show y = _ from h2)
    obtain ⟨c, hc, rc⟩ := q1.atI h3
    exact ix_tup value slice pins s σ H _ _ v u Q I rx ry ⟨_, _, _, _, rfl, rfl, r1, hc, h4 _ _ (.old rc)⟩ hs
  · obtain ⟨a, kvs, rfl, r1, q1⟩ := h1
    split at h3
    · rename_i hk
      obtain ⟨k, rfl⟩ := keyOf hk
      rcases q1.get (k := k) with ⟨n1, _⟩ | ⟨d', v', n1, n2, rr⟩
      · rw [n1] at h3; cases h3
      · rw [n1] at h3
        cases h3
        rw [isKey_V h2] at ry
        exact ix_dict value slice pins s σ H _ _ v u Q I rx ry ⟨_, _, rfl, by rw [← n2]; exact DGet.k r1, hu, h4 _ _ (.old rr)⟩ hs
    · cases h3
  · cases h3

/-! ### cuts -/
theorem Reps.cut {K : PySem.W.Frag} {W : Addr → Prop} {H : Hp} {ds : List Dt} {xs : List V} (lo hi : Option Int) (r : Reps K W H ds xs) : Reps K W H (cutD ds lo hi) (L2.cutV xs lo hi) := by
  unfold cutD L2.cutV
  rw [r.length]
  exact (r.drop _).take _
theorem cut_whole {ds : List Dt} {lo hi : Option Int} (h : HT.sIx ds.length 0 lo = 0 ∧ HT.sIx ds.length ds.length hi = ds.length) : cutD ds lo hi = ds := by
  unfold cutD
  rw [h.1, h.2]
  simp
theorem sl_mini : SlR X (fun x lo hi H Q => ∃ W d z, RdW X.K W H d x ∧ sliceD lo hi d = some z ∧ ∀ v H', NewV X.K W H z v H' → Q v H') := by
  intro pins s σ H x v vl vu lo hi sl Q I rx hs pl pu h
  obtain ⟨W, d, z, h1, h3, h4⟩ := h
  unfold sliceD at h3
  split at h3
  · obtain ⟨a, xs, rfl, r1, q1⟩ := h1
    cases h3
    exact sl_list pins s σ H _ v vl vu lo hi sl Q I rx hs pl pu ⟨_, _, rfl, SqL.of r1, fun p np => h4 _ _ (.lst np (q1.cut lo hi))⟩
  · have h1' : Rep X.K W H _ x := h1
    obtain ⟨a, xs, rfl, r1, q1⟩ := h1'.tup
    cases h3
    refine sl_tupA pins s σ H _ v vl vu lo hi sl Q I rx hs pl pu ⟨_, _, rfl, r1, fun hw => ?_, fun _ p np => h4 _ _ (.tup np (q1.cut lo hi))⟩
    rw [← q1.length] at hw
    rw [cut_whole hw] at h4
    exact h4 _ _ (.old h1')
  · cases h3
def tRev1 (K : PySem.W.Frag) (te : TE) : TE := fun σ H Q => te σ H fun x H1 => ∃ W d z, RdW K W H1 d x ∧ revD d = some z ∧ ∀ v H', NewV K W H1 z v H' → Q v H'
theorem pe_rev1 {e : Expr} {te : TE} {k : Nat} {p1 p2 p3 pos : Pos} (he : PE X e te) : PE X (.Subscript e (.Slice none none (some (.UnaryOp .USub (.Constant (.int 1) k p1) p2)) p3) pos) (tRev1 X.K te) := by
  refine ⟨fun pins s σ H Q I h => ?_⟩
  refine Subscript_ (thn (he.run pins s σ H _ I h) fun v s1 ⟨x, H1, I1, r1, q1⟩ => ?_)
  obtain ⟨W, d, z, h1, h3, h4⟩ := q1
  have hst : PO X (some (.UnaryOp .USub (.Constant (.int 1) k p1) p2)) (tPart (tUn (rU fun i => .int (-i)) (tC (.int 1)))) := po_some (pe_un un_neg pe_int)
  refine wpAny_Slice (thn (po_none.run pins s1 σ H1 (fun o H2 => o = none ∧ H2 = H1) I1 ⟨rfl, rfl⟩) fun vl s2 ⟨l, H2, I2, pl, el, e2⟩ => ?_)
  subst el e2
  refine thn (po_none.run pins s2 σ H2 (fun o H3 => o = none ∧ H3 = H2) I2 ⟨rfl, rfl⟩) fun vu s3 ⟨u, H3, I3, pu, eu, e3⟩ => ?_
  subst eu e3
  refine thn (hst.run pins s3 σ H3 (fun o H4 => o = some (-1) ∧ H4 = H3) I3 ⟨1, rfl, -1, rfl, rfl, rfl⟩) fun vs s4 ⟨o, H4, I4, ps, eo, e4⟩ => ?_
  subst eo e4
  have I5 : Inv X pins σ H4 { s4 with heap := s4.heap.push { cls := .type "slice", data := .fields #[vl, vu, vs] } } := I4.kept (t' := s4.toks) fun b ob q => Heap.get?_push_of_some _ q
  unfold revD at h3
  split at h3
  · obtain ⟨a, xs, rfl, hx, q1⟩ := h1
    cases h3
    cases r1
    obtain ⟨its, r, ht, hz⟩ := I5.list (SqL.of hx)
    have hlen := r.length
    refine tail_any (ops := [.ref a, .ref s4.heap.objs.size]) ht.isList.typeIs (PySem.slot_list_getitem.lookup) ?_ (by with_unfolding_all rfl)
    refine wpAny_getItem_list_slice ht.isList (Heap.IsSliceOf.new _ vl vu vs) pl pu ps (by decide) ?_ (by rw [List.size_toArray]; omega)
    rw [PySem.W.krv_pick]
    refine ⟨.ref _, _, I5.laid (t' := s4.toks) (o := .lst xs.reverse) (fun b ob q => Heap.get?_push_of_some _ q) (Nat.le_refl _) ?_, rfl, h4 _ _ (.lst (I5.hok.fresh (Nat.le_refl _)) q1.reverse)⟩
    exact ⟨by rw [List.length_reverse]; exact hz, _, 0, r.reverse, Heap.get?_push_size _ rfl⟩
  · have h1' : Rep X.K W H4 _ x := h1
    obtain ⟨a, xs, rfl, hx, q1⟩ := h1'.tup
    cases h3
    cases r1
    obtain ⟨its, r, ht, hz⟩ := I5.tuple hx
    have hlen := r.length
    refine tail_any (ops := [.ref a, .ref s4.heap.objs.size]) ht.typeIs (PyProof.Rows.slot_tuple_getitem.lookup) ?_ (by with_unfolding_all rfl)
    refine getItem_tuple_rev ht (Heap.IsSliceOf.new _ vl vu vs) pl pu ps ?_ (by rw [List.size_toArray]; omega)
    have e1 : its.toArray.toList.reverse = its.reverse := by simp
    rw [e1]
    refine ⟨.ref _, _, I5.laid (t' := s4.toks) (o := .tup xs.reverse) (fun b ob q => Heap.get?_push_of_some _ q) (Nat.le_refl _) ?_, rfl, h4 _ _ (.tup (I5.hok.fresh (Nat.le_refl _)) q1.reverse)⟩
    exact ⟨by rw [List.length_reverse]; exact hz, _, r.reverse, IsTup.new _ _⟩
  · cases h3
end
end Mini

end
section
set_option Elab.async false
set_option linter.all false
set_option maxRecDepth 100000
set_option maxHeartbeats 4000000
/-! Mini, part 6: built-in functions by values. -/
namespace Mini
open PySem PySem.Spec PyProof.Rows L2
theorem insI_perm (x : Int) : ∀ l : List Int, (insI x l).Perm (x :: l)
  | [] => List.Perm.refl _
  | y :: ys => by
    unfold insI
    split
    · exact List.Perm.refl _
    · exact ((insI_perm x ys).cons y).trans (List.Perm.swap x y ys)
theorem sortI_perm : ∀ l : List Int, (sortI l).Perm l
  | [] => List.Perm.refl _
  | x :: xs => (insI_perm x (sortI xs)).trans ((sortI_perm xs).cons x)
theorem insI_sorted (x : Int) : ∀ l : List Int, l.Pairwise (· ≤ ·) → (insI x l).Pairwise (· ≤ ·)
  | [], _ => List.pairwise_singleton _ _
  | y :: ys, h => by
    obtain ⟨h1, h2⟩ := List.pairwise_cons.mp h
    unfold insI
    split
    · rename_i hxy
      refine List.pairwise_cons.mpr ⟨fun z hz => ?_, h⟩
      rcases List.mem_cons.mp hz with rfl | hz
      · exact hxy
      · exact Int.le_trans hxy (h1 z hz)
    · rename_i hxy
      refine List.pairwise_cons.mpr ⟨fun z hz => ?_, insI_sorted x ys h2⟩
      rcases List.mem_cons.mp ((insI_perm x ys).mem_iff.mp hz) with rfl | hz
      · omega
      · exact h1 z hz
theorem sortI_sorted : ∀ l : List Int, (sortI l).Pairwise (· ≤ ·)
  | [] => List.Pairwise.nil
  | x :: xs => insI_sorted x _ (sortI_sorted xs)
theorem sorted_uniq : ∀ {l m : List Int}, l.Perm m → l.Pairwise (· ≤ ·) → m.Pairwise (· ≤ ·) → l = m
  | [], m, h, _, _ => (List.Perm.eq_nil h.symm).symm
  | x :: l, [], h, _, _ => absurd h.length_eq (by simp)
  | x :: l, y :: m, h, h1, h2 => by
    obtain ⟨a1, a2⟩ := List.pairwise_cons.mp h1
    obtain ⟨b1, b2⟩ := List.pairwise_cons.mp h2
    have e1 : x ≤ y := by
      rcases List.mem_cons.mp (h.mem_iff.mpr (List.mem_cons_self (a := y) (l := m))) with e | e
      · omega
      · exact a1 y e
    have e2 : y ≤ x := by
      rcases List.mem_cons.mp (h.mem_iff.mp (List.mem_cons_self (a := x) (l := l))) with e | e
      · omega
      · exact b1 x e
    have e : x = y := by omega
    subst e
    rw [sorted_uniq h.cons_inv a2 b2]
theorem sortI_of {l m : List Int} (h : l.Perm m) (s : l.Pairwise (· ≤ ·)) : l = sortI m := sorted_uniq (h.trans (sortI_perm m).symm) s (sortI_sorted m)
theorem Reps.ofInts {K : PySem.W.Frag} {W : Addr → Prop} {H : Hp} : ∀ ns : List Int, Reps K W H (ns.map .int) (ns.map V.int)
  | [] => rfl
  | n :: ns => .cons rfl (Reps.ofInts ns)
theorem foldl_max (f : Int → Int → Int) (hf : ∀ a b, f a b = max a b) : ∀ (ns : List Int) (n : Int), (∀ y ∈ ns, y ≤ ns.foldl f n) ∧ n ≤ ns.foldl f n ∧ (ns.foldl f n = n ∨ ns.foldl f n ∈ ns)
  | [], n => ⟨fun _ h => (by cases h), Int.le_refl _, .inl rfl⟩
  | m :: ns, n => by
    obtain ⟨h1, h2, h3⟩ := foldl_max f hf ns (f n m)
    have e := hf n m
    rw [List.foldl_cons]
    refine ⟨fun y hy => ?_, by omega, ?_⟩
    · rcases List.mem_cons.mp hy with rfl | hy
      · omega
      · exact h1 y hy
    · rcases h3 with h3 | h3
      · rw [h3]
        rcases Int.le_total n m with q | q
        · exact .inr (by rw [show f n m = m by omega]; exact List.mem_cons_self ..)
        · exact .inl (by omega)
      · exact .inr (List.mem_cons_of_mem _ h3)
theorem foldl_min (f : Int → Int → Int) (hf : ∀ a b, f a b = min a b) : ∀ (ns : List Int) (n : Int), (∀ y ∈ ns, ns.foldl f n ≤ y) ∧ ns.foldl f n ≤ n ∧ (ns.foldl f n = n ∨ ns.foldl f n ∈ ns)
  | [], n => ⟨fun _ h => (by cases h), Int.le_refl _, .inl rfl⟩
  | m :: ns, n => by
    obtain ⟨h1, h2, h3⟩ := foldl_min f hf ns (f n m)
    have e := hf n m
    rw [List.foldl_cons]
    refine ⟨fun y hy => ?_, by omega, ?_⟩
    · rcases List.mem_cons.mp hy with rfl | hy
      · omega
      · exact h1 y hy
    · rcases h3 with h3 | h3
      · rw [h3]
        rcases Int.le_total n m with q | q
        · exact .inl (by omega)
        · exact .inr (by rw [show f n m = m by omega]; exact List.mem_cons_self ..)
      · exact .inr (List.mem_cons_of_mem _ h3)
section
variable {X : Cx}
/-- sum of a tuple of ints: the built-in draws from any sequence -/
theorem repr_mini (hg : X.A.guards = some []) (hu : X.A.units + 70 < cLine) : CallR X (.builtin "repr") (rMk1 X.K (b1D .repr)) := by
  intro pins s σ H xs us Q I r h
  obtain ⟨W, d, z, x, rfl, h1, h2, h3⟩ := h
  obtain ⟨u, rfl, rx⟩ := vals1 r
  have h2' : (if shows d = true then some ((Fl.sh, PyData.str d.shown) : Sl) else none) = some z := by
    rw [← h2]
    cases d <;> rfl
  split at h2' <;> cases h2'
  rename_i hs
  unfold shows at hs
  simp only [Bool.and_eq_true, decide_eq_true_eq] at hs
  obtain ⟨⟨⟨k1, k2⟩, k3⟩, k4⟩ := hs
  have hlen : d.shown.length ≤ sizeLine := by
    have := PyData.shown_le_bulk 100 (by decide) d k3
    rw [sizeLine_eq]
    omega
  have fin : ∀ (h' : Heap) (tk tk2 : Nat), (∀ b o, s.heap.get? b = some o → h'.get? b = some o) → EP X pins σ Q (.str d.shown tk) { s with heap := h', toks := tk2 } := fun h' tk tk2 hk =>
    ⟨.str d.shown, H, I.kept hk, ⟨_, rfl⟩, h3 _ _ (.old rfl)⟩
  have hdict : d.hasDict = false := PyData.hasDict_of_canLay d (SeqAt.canLay_of_shaped k1)
  cases d with
  | none =>
    cases (show x = _ from h1)
    cases rx
    exact PySem.P.repr_of_none (fin _ _ _ fun _ _ e => e)
  | bool b =>
    cases (show x = _ from h1)
    cases rx
    exact PySem.P.repr_of_bool (fin _ _ _ fun _ _ e => e)
  | int i =>
    cases (show x = _ from h1)
    obtain ⟨t, rfl⟩ := rx
    exact PySem.P.repr_of_int (by simpa [PyData.showable] using k2) (fin _ _ _ fun _ _ e => e)
  | str y =>
    cases (show x = _ from h1)
    obtain ⟨t, rfl⟩ := rx
    exact PySem.P.repr_of_str (fin _ _ _ fun _ _ e => e) hlen
  | list ds =>
    obtain ⟨as, rr⟩ := Dp.reads I _ _ _ (h1.dp (noDict_flat k1)) rx
    obtain ⟨a, xs, rfl, _⟩ := h1
    cases rx
    exact repr_of_reads' rr k2 (fun q => by rw [hdict] at q; cases q) hg (by have := SeqAt.depth_of_shaped k1; omega) (fun _ _ e => e) (fun h' u tk hk => fin h' u tk hk) hlen
  | tuple ds =>
    obtain ⟨as, rr⟩ := Dp.reads I _ _ _ (h1.dp (noDict_flat k1)) rx
    obtain ⟨a, xs, rfl, _⟩ := h1
    cases rx
    exact repr_of_reads' rr k2 (fun q => by rw [hdict] at q; cases q) hg (by have := SeqAt.depth_of_shaped k1; omega) (fun _ _ e => e) (fun h' u tk hk => fin h' u tk hk) hlen
  | dict es => simp [flat, SeqAt.shaped, PyData.canLay0] at k1
theorem mapI {α : Type} {f : List Int → α} {ds : List Dt} {z : α} (h : (allI ds).map f = some z) : ∃ ns, allI ds = some ns ∧ f ns = z := Option.map_eq_some_iff.mp h
/-- sorted(d) of a dict whose keys are ints -/
theorem sorted_keys (hc : X.calm = true) {pins : List (Addr × Obj)} {σ : L2.St} {H : Hp} {s : Shared} {a : Addr} {kvs : List (Key × V)} {ns : List Int} {Q : VK} (I : L2.Inv X pins σ H s) (hd : H a = some (.dK kvs)) (hk : kvs.map (·.1) = ns.map Sum.inl)
    (h : ∀ p, H p = none → Q (.ref p) (upd H p (.lst ((sortI ns).map V.int)))) : wpAny (model X.prog X.w) X.A (call (.builtin "sorted") [.ref a]) (EP X pins σ Q) X.xe s := by
  obtain ⟨z, lo, vs, rel, dd⟩ := dk_rd I.hok (.inl hd)
  obtain ⟨ep, hat⟩ := dd.dictAt
  have hkeys : vs.map (·.1) = ns.map Sum.inl := rel.keys.symm.trans hk
  have hl : vs.length = ns.length := by simpa using congrArg List.length hkeys
  have hlen : vs.length ≤ sizeLine := by
    have e : kvs.length = vs.length := by simpa using congrArg List.length rel.keys
    omega
  refine Calls.call_function_entry PyProof.Rows.kind_sorted PyProof.Rows.plain_sorted PyProof.Rows.entry_sorted (PyProof.Rows.args_sorted1 _) ?_
  unfold Builtin.«sorted»
  refine wpAny_bind (m := checkCount "sorted" 1 1 _) (wpAny_pure ?_)
  refine wpAny_bind (PySem.W.kdu_collect (A := X.A.in1) (PySem.W.kdl_dict (knd := mixKind X.prog X.w) (kvs := vs) (ep := ep) lo) (I.ok.hd hc) hat hlen fun h' tk acc hk' hacc => ?_)
  have hal : acc.toList.length = ns.length := by rw [Array.length_toList, hacc.1, hl]
  have hS : IntsAre acc.toList ns := by
    have r := keys_at (us := acc.toList) (vs := vs) (by rw [hal, hl]) fun j v e => hacc.2 j v (by rw [← Array.getElem?_toList]; exact e)
    have e1 : (vs.map fun p => kV p.1) = ns.map V.int := by
      have : (vs.map fun p => kV p.1) = (vs.map (·.1)).map kV := by rw [List.map_map]; rfl
      rw [this, hkeys, List.map_map]
      rfl
    rw [e1] at r
    exact r.ints
  have I1 : L2.Inv X pins σ H { s with heap := h', toks := tk } := I.kept hk'
  refine wpAny_bind (wpAny_newList ?_ (by omega))
  have hoL : (h'.push (seqObj "list" acc.toList.toArray 0)).get? h'.objs.size = some (seqObj "list" acc.toList.toArray 0) := Heap.get?_push_size _ rfl
  show wpAny _ _ _ _ _ { s with heap := h'.push (seqObj "list" acc.toList.toArray 0), toks := tk }
  refine wpAny_bind (wpAny_holding (wpAny_call_entry PyProof.Rows.slot_list_sort ⟨_, hoL, rfl⟩ PyProof.Rows.entry_list_sort
    (SrtO.list_sort_ord SrtO.swo_int hoL (by omega) (fun h2 => SrtO.ints_sortable hS h2) fun out h1 h2 => ⟨_, rfl, ?_⟩) (PyProof.Rows.args_list_sort _)))
  obtain ⟨k1, k2, k3⟩ := SrtO.ints_out hS h1 h2
  obtain ⟨e', he'⟩ := PyProof.Rows.sortedHeap_at (vs := acc.toList) (out := out.toArray) hoL
  have hsz : ((out.map SrtO.iv).map V.int).length ≤ sizeLine := by
    rw [List.length_map, k2.length_eq]
    omega
  have hs2 : out.map SrtO.iv = sortI ns := sortI_of k2 k3
  refine wpAny_pure ⟨_, rfl, .ref h'.objs.size, upd H h'.objs.size (.lst ((sortI ns).map V.int)), I1.laid (t' := tk) (fun b u e => ?_) (Nat.le_refl _) ?_, rfl, h _ (I1.hok.fresh (Nat.le_refl _))⟩
  · have q : (h'.push (seqObj "list" acc.toList.toArray 0)).get? b = some u := Heap.get?_push_of_some _ e
    have ne : b ≠ h'.objs.size := Nat.ne_of_lt (Heap.lt_size e)
    rw [PyProof.Rows.sortedHeap_old ne (Heap.lt_size q)]
    exact q
  · rw [← hs2]
    exact ⟨hsz, out, _, vals_of_ints k1, he'⟩
def b1F : B1 → Value
  | .len => .builtin "len" | .abs => .builtin "abs" | .tuple => .type "tuple" | .list => .type "list" | .sum => .builtin "sum" | .sorted => .builtin "sorted"
  | .int => .type "int" | .str => .type "str" | .repr => .builtin "repr" | .all => .builtin "all" | .any => .builtin "any" | .max => .builtin "max" | .min => .builtin "min"
theorem RepKv.keys {K : PySem.W.Frag} {W : Addr → Prop} {H : Hp} : ∀ {es : List (Dt × Dt)} {kvs : List (Key × V)} {ns : List Int}, RepKv K W H es kvs → allI (es.map (·.1)) = some ns → kvs.map (·.1) = ns.map Sum.inl
  | [], kvs, ns, r, h => by
    rw [show kvs = [] from r]
    have e : some [] = some ns := h
    cases e
    rfl
  | (kd, d) :: es, _, ns, ⟨j, v, q, e, e1, r, rs⟩, h => by
    subst e e1
    cases j with
    | inl i =>
      have h' : ((some i).bind fun a => (allI (es.map (·.1))).bind fun b => some (a :: b)) = some ns := by
        rw [← h]
        unfold allI
        rw [List.map_cons, List.mapM_cons]
        rfl
      simp only [Option.bind_some] at h'
      cases e2 : allI (es.map (·.1)) with
      | none => rw [e2] at h'; cases h'
      | some ms =>
        rw [e2] at h'
        cases h'
        rw [List.map_cons, List.map_cons, RepKv.keys rs e2]
    | inr y => simp [allI, isInt, keyD] at h
theorem b1_mini (hc : X.calm = true) (hg : X.A.guards = some []) (hu : X.A.units + 70 < cLine) (f : B1) : CallR X (b1F f) (rMk1 X.K (b1D f)) := by
  by_cases hf : f = .repr
  · subst hf
    exact repr_mini hg hu
  intro pins s σ H xs us Q I r h
  have h0 := h
  obtain ⟨W, d, z, x, rfl, h1, h2, h3⟩ := h
  obtain ⟨u, rfl, rx⟩ := vals1 r
  unfold b1D at h2
  split at h2
  · obtain ⟨a, xs, rfl, r1, q1⟩ := h1
    cases h2
    refine call_len pins s σ H _ _ Q I r ⟨_, xs.length, rfl, .inl ⟨_, SqL.of r1, rfl⟩, ?_⟩
    rw [← q1.length]
    exact h3 _ _ (.old rfl)
  · have h1' : Rep X.K W H _ x := h1
    obtain ⟨a, xs, rfl, r1, q1⟩ := h1'.tup
    cases h2
    refine call_len pins s σ H _ _ Q I r ⟨_, xs.length, rfl, .inr ⟨_, r1, rfl⟩, ?_⟩
    rw [← q1.length]
    exact h3 _ _ (.old rfl)
  · cases (show x = _ from h1)
    split at h2 <;> cases h2
    exact call_len pins s σ H _ _ Q I r ⟨_, _, rfl, ⟨lim_line (by assumption), rfl⟩, h3 _ _ (.old rfl)⟩
  · cases (show x = _ from h1)
    cases h2
    exact call_abs pins s σ H _ _ Q I r ⟨_, rfl, h3 _ _ (.old rfl)⟩
  · obtain ⟨a, xs, rfl, r1, q1⟩ := h1
    cases h2
    exact call_tuple_of pins s σ H _ _ Q I r ⟨_, _, rfl, .inl ⟨SqL.of r1, fun l hl => h3 _ _ (.tup hl q1)⟩⟩
  · have h1' : Rep X.K W H _ x := h1
    obtain ⟨a, xs, rfl, r1, q1⟩ := h1'.tup
    cases h2
    exact call_tuple_of pins s σ H _ _ Q I r ⟨_, _, rfl, .inr ⟨r1, h3 _ _ (.old h1')⟩⟩
  · obtain ⟨a, xs, rfl, r1, q1⟩ := h1
    cases h2
    exact call_list_of pins s σ H _ _ Q I r ⟨_, _, rfl, .inl (SqL.of r1), fun l hl => h3 _ _ (.lst hl q1)⟩
  · have h1' : Rep X.K W H _ x := h1
    obtain ⟨a, xs, rfl, r1, q1⟩ := h1'.tup
    cases h2
    exact call_list_of pins s σ H _ _ Q I r ⟨_, _, rfl, .inr r1, fun l hl => h3 _ _ (.lst hl q1)⟩
  · obtain ⟨a, xs, rfl, r1, q1⟩ := h1
    obtain ⟨ns, e1, rfl⟩ := mapI h2
    have e2 := q1.ints e1
    subst e2
    exact cr_sum hc pins s σ H _ _ Q I r ⟨_, _, rfl, SqL.of r1, h3 _ _ (.old rfl)⟩
  · obtain ⟨a, xs, rfl, r1, q1⟩ := h1
    split at h2
    · rename_i n ns e1
      cases h2
      have e2 := q1.ints e1
      subst e2
      obtain ⟨m1, m2, m3⟩ := foldl_max max (fun _ _ => rfl) ns n
      refine cr_max hc pins s σ H _ _ Q I r ⟨_, _, rfl, SqL.of r1, by simp, fun m hm hle => ?_⟩
      have e3 : m = ns.foldl max n := by
        have a1 : ns.foldl max n ≤ m := hle _ (by
          rcases m3 with m3 | m3
          · rw [m3]; exact List.mem_cons_self ..
          · exact List.mem_cons_of_mem _ m3)
        have a2 : m ≤ ns.foldl max n := by
          rcases List.mem_cons.mp hm with rfl | hm
          · exact m2
          · exact m1 m hm
        omega
      rw [e3]
      exact h3 _ _ (.old rfl)
    · cases h2
  · obtain ⟨a, xs, rfl, r1, q1⟩ := h1
    split at h2
    · rename_i n ns e1
      cases h2
      have e2 := q1.ints e1
      subst e2
      obtain ⟨m1, m2, m3⟩ := foldl_min min (fun _ _ => rfl) ns n
      refine cr_min hc pins s σ H _ _ Q I r ⟨_, _, rfl, SqL.of r1, by simp, fun m hm hle => ?_⟩
      have e3 : m = ns.foldl min n := by
        have a1 : m ≤ ns.foldl min n := hle _ (by
          rcases m3 with m3 | m3
          · rw [m3]; exact List.mem_cons_self ..
          · exact List.mem_cons_of_mem _ m3)
        have a2 : ns.foldl min n ≤ m := by
          rcases List.mem_cons.mp hm with rfl | hm
          · exact m2
          · exact m1 m hm
        omega
      rw [e3]
      exact h3 _ _ (.old rfl)
    · cases h2
  · obtain ⟨a, xs, rfl, r1, q1⟩ := h1
    obtain ⟨bs, e1, rfl⟩ := Option.map_eq_some_iff.mp h2
    have e2 := q1.bools e1
    subst e2
    exact cr_all hc pins s σ H _ _ Q I r ⟨_, _, rfl, SqL.of r1, h3 _ _ (.old rfl)⟩
  · obtain ⟨a, xs, rfl, r1, q1⟩ := h1
    obtain ⟨bs, e1, rfl⟩ := Option.map_eq_some_iff.mp h2
    have e2 := q1.bools e1
    subst e2
    exact cr_any hc pins s σ H _ _ Q I r ⟨_, _, rfl, SqL.of r1, h3 _ _ (.old rfl)⟩
  · cases (show x = _ from h1)
    cases h2
    exact call_int1 pins s σ H _ _ Q I r (.inl ⟨_, rfl, h3 _ _ (.old rfl)⟩)
  · cases (show x = _ from h1)
    cases h2
    exact call_int1 pins s σ H _ _ Q I r (.inr ⟨_, rfl, h3 _ _ (.old rfl)⟩)
  · obtain ⟨a, xs, rfl, r1, q1⟩ := h1
    obtain ⟨ns, e1, rfl⟩ := mapI h2
    have e2 := q1.ints e1
    subst e2
    refine cr_sortedI pins s σ H _ _ Q I r ⟨_, _, rfl, SqL.of r1, fun ns' p hp hs hn => ?_⟩
    rw [sortI_of hp hs]
    exact h3 _ _ (.lst hn (Reps.ofInts _))
  · obtain ⟨a, kvs, rfl, r1, q1⟩ := h1
    obtain ⟨ns, e1, rfl⟩ := mapI h2
    cases rx
    exact sorted_keys hc I r1 (q1.keys e1) fun p hn => h3 _ _ (.lst hn (Reps.ofInts _))
  · cases (show x = _ from h1)
    split at h2 <;> cases h2
    exact call_str_int pins s σ H _ _ Q I r ⟨_, rfl, by assumption, h3 _ _ (.old rfl)⟩
  · exact absurd rfl hf
  · cases h2
def b2F : B2 → Value
  | .max => .builtin "max" | .min => .builtin "min"
theorem b2_mini (hc : X.calm = true) (f : B2) : CallR X (b2F f) (rMk2 X.K (b2D f)) := by
  intro pins s σ H xs us Q I r h
  obtain ⟨W, d, e, z, x, y, rfl, h1, h1', h2, h3⟩ := h
  unfold b2D at h2
  split at h2
  · cases (show x = _ from h1); cases (show y = _ from h1')
    cases h2
    exact call_max2 hc pins s σ H _ _ Q I r ⟨_, _, rfl, h3 _ _ (.old rfl)⟩
  · cases (show x = _ from h1); cases (show y = _ from h1')
    cases h2
    exact call_min2 hc pins s σ H _ _ Q I r ⟨_, _, rfl, h3 _ _ (.old rfl)⟩
  · cases h2
end
end Mini

end
section
set_option Elab.async false
set_option linter.all false
set_option maxRecDepth 100000
set_option maxHeartbeats 4000000
/-! Mini, part 7: what an expression's meaning promises of the heap. -/
namespace Mini
open PySem PySem.Spec PyProof.Rows L2
section
variable (K : PySem.W.Frag) (S : Addr → Prop) (F : Fs) (σ : L2.St) (H : Hp)
/-- from F, H on to F', H', the slots ρ' -/
structure Go (F' : Fs) (ρ' : En) (H' : Hp) : Prop where
  env : EnvOk K S F' ρ' σ H'
  fr : Fr F H F' H'
  sub : ∀ i, F' i = F i ∨ F' i = []
inductive Res (ρ : En) : Sl → V → List Addr → Prop
  | slot {fl : Fl} {d : Dt} {v : V} {A : List Addr} : okFl fl = true → SlotRep K (Wt S F) H fl v d A → Res ρ (fl, d) v A
  | bo {i : Nat} {d : Dt} {v : V} : rd ρ i = some (.own, d) → σ[i]? = some (some v) → Res ρ (.bo i, d) v []
end
structure PostE (K : PySem.W.Frag) (S : Addr → Prop) (F : Fs) (σ : L2.St) (H : Hp) (r : Sl × En) (v : V) (H' : Hp) (F' : Fs) (A : List Addr) : Prop where
  env : EnvOk K (addS S A) F' r.2 σ H'
  res : Res K (addS S A) F' σ H' r.2 r.1 v A
  fr : Fr F H F' H'
  sub : ∀ i, F' i = F i ∨ F' i = []
  new : ∀ a ∈ A, (∃ j, a ∈ F j) ∨ H a = none
  apart : ∀ a ∈ A, ¬ S a
structure PostK (K : PySem.W.Frag) (S : Addr → Prop) (F : Fs) (σ : L2.St) (H : Hp) (r : Dt × En) (v : V) (H' : Hp) (F' : Fs) : Prop where
  go : Go K S F σ H F' r.2 H'
  rep : Rep K (Wt S F') H' r.1 v
def tD (K : PySem.W.Frag) (f : En → Option (Sl × En)) : TE := fun σ H Q => ∃ S F ρ r, EnvOk K S F ρ σ H ∧ f ρ = some r ∧ ∀ v H' F' A, PostE K S F σ H r v H' F' A → Q v H'
def tK (K : PySem.W.Frag) (f : En → Option (Dt × En)) : TE := fun σ H Q => ∃ S F ρ r, EnvOk K S F ρ σ H ∧ f ρ = some r ∧ ∀ v H' F', PostK K S F σ H r v H' F' → Q v H'
def tT (K : PySem.W.Frag) (f : En → Option (Bool × En)) : TT := fun σ H Q => ∃ S F ρ r, EnvOk K S F ρ σ H ∧ f ρ = some r ∧ ∀ H' F', Go K S F σ H F' r.2 H' → Q r.1 H'
section
variable {K : PySem.W.Frag} {S : Addr → Prop} {F F1 F2 : Fs} {σ : L2.St} {H H1 H2 : Hp} {ρ ρ1 ρ2 : En}
theorem Go.refl (e : EnvOk K S F ρ σ H) : Go K S F σ H F ρ H := ⟨e, Fr.refl F H, fun _ => .inl rfl⟩
theorem Go.trans (a : Go K S F σ H F1 ρ1 H1) (b : Go K S F1 σ H1 F2 ρ2 H2) : Go K S F σ H F2 ρ2 H2 := ⟨b.env, a.fr.trans b.fr, fun i => by
  rcases b.sub i with e | e
  · rw [e]; exact a.sub i
  · exact .inr e⟩
theorem Go.same (h : Same H1 H2) (a : Go K S F σ H F1 ρ1 H1) : Go K S F σ H F1 ρ1 H2 := ⟨a.env.same h, a.fr.trans (Fr.same h), a.sub⟩
theorem Go.wt (a : Go K S F σ H F1 ρ1 H1) {b : Addr} (h : Wt S F1 b) : Wt S F b := by
  rcases h with h | ⟨i, h⟩
  · exact .inl h
  · rcases a.sub i with e | e
    · rw [e] at h; exact .inr ⟨i, h⟩
    · rw [e] at h; cases h
/-- a value that is kept away from what may change -/
theorem Go.rep (a : Go K S F σ H F1 ρ1 H1) {d : Dt} {v : V} (r : Rep K (Wt S F) H d v) : Rep K (Wt S F1) H1 d v :=
  r.step (fun b o e n => a.fr.keep b o e fun i z => n (.inr ⟨i, z⟩)) fun b z => .inl (a.wt z)
theorem Go.reps (a : Go K S F σ H F1 ρ1 H1) {d : List Dt} {v : List V} (r : Reps K (Wt S F) H d v) : Reps K (Wt S F1) H1 d v :=
  r.step (fun b o e n => a.fr.keep b o e fun i z => n (.inr ⟨i, z⟩)) fun b z => .inl (a.wt z)
/-- fewer things outside -/
theorem Go.weak {S' : Addr → Prop} (h : ∀ a, S' a → S a) (a : Go K S F σ H F1 ρ1 H1) : Go K S' F σ H F1 ρ1 H1 := ⟨a.env.weak h, a.fr, a.sub⟩
section
variable {r : Sl × En} {v : V} {A : List Addr}
theorem PostE.go (p : PostE K S F σ H r v H1 F1 A) : Go K S F σ H F1 r.2 H1 := ⟨p.env.weak fun _ => .inl, p.fr, p.sub⟩
theorem PostE.apart' (p : PostE K S F σ H r v H1 F1 A) : ∀ a ∈ A, ¬ Wt S F1 a := fun a ha z => by
  rcases z with z | ⟨i, z⟩
  · exact p.apart a ha z
  · exact p.env.ext i a z (.inr ha)
theorem PostE.rep (p : PostE K S F σ H r v H1 F1 A) (hk : keep? r.1.1 = true) : Rep K (Wt S F1) H1 r.1.2 v := by
  obtain ⟨⟨fl, d⟩, ρ'⟩ := r
  cases p.res with
  | slot _ q => exact q.share hk (fun a z => z.imp .inl id) p.apart'
  | bo _ _ => cases hk
theorem PostE.keep (p : PostE K S F σ H r v H1 F1 A) (hk : keep? r.1.1 = true) : PostK K S F σ H (r.1.2, r.2) v H1 F1 := ⟨p.go, p.rep hk⟩
/-- an operand, when the others have been reckoned too -/
theorem PostE.later (p : PostE K S F σ H r v H1 F1 A) (hr : read? r.1.1 = true) (g : Go K S F1 σ H1 F2 ρ2 H2) (hp : ∀ i, r.1.1 = .bo i → ρ2 = r.2) : RdW K (Wt S F2) H2 r.1.2 v := by
  obtain ⟨⟨fl, d⟩, ρ'⟩ := r
  cases p.res with
  | slot h q =>
    have hk : keep? fl = true := by cases fl <;> simp_all [okFl, keep?, read?]
    exact (g.rep (p.rep hk)).rd
  | bo e1 e2 =>
    rename_i i
    have e := hp i rfl
    subst e
    obtain ⟨v', hv, q⟩ := g.env.slot i .own d e1
    rw [e2] at hv
    cases hv
    generalize F2 i = A' at q
    cases q with
    | lst a b => exact ⟨_, _, rfl, a, b⟩
    | dct a b => exact ⟨_, _, rfl, a, b⟩
theorem PostE.now (p : PostE K S F σ H r v H1 F1 A) (hr : read? r.1.1 = true) : RdW K (Wt S F1) H1 r.1.2 v := p.later hr (Go.refl p.go.env) fun _ _ => rfl
theorem EnvOk.grow {p : Addr} {o : HO} (e : EnvOk K S F ρ σ H) (h : H p = none) (ho : mu (upd H p o) p) : EnvOk K (addS S [p]) F ρ σ (upd H p o) := by
  have sm := same_upd (o := o) h
  have e' := e.same sm
  have sub : ∀ a, Wt (addS S [p]) F a → Wt S F a ∨ H a = none := fun a z => by
    rcases z with (z | z) | z
    · exact .inl (.inl z)
    · rw [List.mem_singleton.mp z]; exact .inr h
    · exact .inl (.inr z)
  refine ⟨e.len, fun i fl d q => ?_, e.emp, e.dis, fun i a ha z => ?_, fun a z => ?_⟩
  · obtain ⟨v, hv, r⟩ := e.slot i fl d q
    refine ⟨v, hv, r.step (fun b o q _ => sm b o q) sub (fun a z => ?_) e.wt⟩
    rw [upd_ne fun z2 => by rw [z2] at z; exact (r.mus p z).ne h]
  · rcases z with z | z
    · exact e.ext i a ha z
    · rw [List.mem_singleton.mp z] at ha
      exact e.wfree h (.inr ⟨i, ha⟩)
  · rcases z with z | z
    · exact e'.wf a z
    · rw [List.mem_singleton.mp z]; exact ho
/-- a new value, made where all stands well -/
theorem NewV.post {z : Sl} {w : V} (n : NewV K (Wt S F1) H1 z w H2) (g : Go K S F σ H F1 ρ1 H1) : ∃ A, PostE K S F σ H (z, ρ1) w H2 F1 A := by
  cases n with
  | old q => exact ⟨[], ⟨g.env.nil, .slot rfl (.sh (by
      have : addS S [] = S := funext fun a => propext addS_nil
      rw [this]; exact q)), g.fr, g.sub, fun a h => (by cases h), fun a h => (by cases h)⟩⟩
  | lst hp q =>
    rename_i p ds xs
    have sm := same_upd (o := .lst xs) hp
    refine ⟨[p], ⟨g.env.grow hp (.inl ⟨_, upd_same⟩), .slot rfl (.lst upd_same (q.step (fun b o e _ => sm b o e) fun a z => ?_)), g.fr.trans (Fr.same sm), g.sub, fun a h => ?_, fun a h => ?_⟩⟩
    · rcases z with (z | z) | z
      · exact .inl (.inl z)
      · rw [List.mem_singleton.mp z]; exact .inr hp
      · exact .inl (.inr z)
    · rw [List.mem_singleton.mp h]
      cases e : H p with
      | none => exact .inr rfl
      | some o => exact absurd hp (g.fr.there p (by rw [e]; exact Option.some_ne_none _))
    · rw [List.mem_singleton.mp h]
      exact fun z => g.env.wfree hp (.inl z)
  | tup hp q =>
    rename_i p ds xs
    have sm := same_upd (o := .tup xs) hp
    have e1 : addS S [] = S := funext fun a => propext addS_nil
    refine ⟨[], ⟨(g.env.same sm).nil, .slot rfl (.sh ?_), g.fr.trans (Fr.same sm), g.sub, fun a h => (by cases h), fun a h => (by cases h)⟩⟩
    rw [e1]
    exact Rep.mkTup upd_same (g.env.wfree hp) (q.step (fun b o e _ => sm b o e) fun a z => .inl z)
end
end
/-! ### rules weakened -/
section
variable {X : Cx}
theorem pe_w {e : Expr} {t t' : TE} (h : PE X e t) (w : ∀ σ H Q, t' σ H Q → t σ H Q) : PE X e t' := ⟨fun pins s σ H Q I q => h.run pins s σ H Q I (w σ H Q q)⟩
theorem pt_w {e : Expr} {t t' : TT} (h : PT X e t) (w : ∀ σ H Q, t' σ H Q → t σ H Q) : PT X e t' := ⟨fun pins s σ H Q I q => h.run pins s σ H Q I (w σ H Q q)⟩
theorem pw_w {e : Expr} {t t' : TT} (h : PW X e t) (w : ∀ σ H Q, t' σ H Q → t σ H Q) : PW X e t' := ⟨fun wh pins s σ H Q I q => h.run wh pins s σ H Q I (w σ H Q q)⟩
theorem pe_k {e : Expr} {f : En → Option (Sl × En)} (h : PE X e (tD X.K f)) : PE X e (tK X.K fun ρ => keepS (f ρ)) := pe_w h fun σ H Q ⟨S, F, ρ, r, e, h1, h2⟩ => by
  have h1 : keepS (f ρ) = some r := h1
  unfold keepS at h1
  obtain ⟨q, e1, e2⟩ := Option.bind_eq_some_iff.mp h1
  by_cases hk : keep? q.1.1 = true
  · rw [if_pos hk] at e2
    cases e2
    exact ⟨S, F, ρ, q, e, e1, fun v H' F' A p => h2 v H' F' (p.keep hk)⟩
  · rw [if_neg hk] at e2
    cases e2
/-- two operands, an operator -/
theorem two_w {fa fb f : En → Option (Sl × En)} {g : Dt → Dt → Option Sl} {okb : Fl → Bool} (hp : ∀ i, okb (.bo i) = true → ∀ ρ q, fb ρ = some q → q.2 = ρ)
    (hf : ∀ ρ r, f ρ = some r → ∃ a b z, fa ρ = some a ∧ read? a.1.1 = true ∧ okb a.1.1 = true ∧ fb a.2 = some b ∧ read? b.1.1 = true ∧ g a.1.2 b.1.2 = some z ∧ r = (z, b.2)) :
    ∀ σ H Q, tD X.K f σ H Q → tOp (rMk X.K g) (tD X.K fa) (tD X.K fb) σ H Q := by
  rintro σ H Q ⟨S, F, ρ, r, e, h1, h2⟩
  obtain ⟨a, b, z, ea, ra, oa, eb, rb, ez, rfl⟩ := hf ρ r h1
  refine ⟨S, F, ρ, a, e, ea, fun v H1 F1 A1 p1 => ⟨S, F1, a.2, b, p1.go.env, eb, fun w H2 F2 A2 p2 => ?_⟩⟩
  refine ⟨Wt S F2, a.1.2, b.1.2, z, p1.later ra p2.go fun i hi => ?_, p2.now rb, ez, fun u H3 n => ?_⟩
  · rw [hi] at oa
    exact hp i oa _ _ eb
  · obtain ⟨A, q⟩ := n.post (p1.go.trans p2.go)
    exact h2 _ _ _ _ q
theorem one_w {fa f : En → Option (Sl × En)} {g : Dt → Option Sl} (hf : ∀ ρ r, f ρ = some r → ∃ a z, fa ρ = some a ∧ read? a.1.1 = true ∧ g a.1.2 = some z ∧ r = (z, a.2)) :
    ∀ σ H Q, tD X.K f σ H Q → tCB (rMk1 X.K g) (tCons (tD X.K fa) tNil) σ H Q := by
  rintro σ H Q ⟨S, F, ρ, r, e, h1, h2⟩
  obtain ⟨a, z, ea, ra, ez, rfl⟩ := hf ρ r h1
  refine ⟨S, F, ρ, a, e, ea, fun v H1 F1 A1 p1 => ?_⟩
  refine ⟨Wt S F1, a.1.2, z, v, rfl, p1.now ra, ez, fun u H3 n => ?_⟩
  obtain ⟨A, q⟩ := n.post p1.go
  exact h2 _ _ _ _ q
end
end Mini

end
section
set_option Elab.async false
set_option linter.all false
set_option maxRecDepth 100000
set_option maxHeartbeats 4000000
/-! Mini, part 8: what a def promises; the check that a text says a meaning. -/
namespace Mini
open PySem PySem.Spec PyProof.Rows L2

/-! ### expressions that change nothing -/
section
variable (cl : CallS)
theorem keepS_snd {o : Option (Sl × En)} {r : Dt × En} (h : keepS o = some r) : ∃ q, o = some q ∧ keep? q.1.1 = true ∧ r = (q.1.2, q.2) := by
  unfold keepS at h
  obtain ⟨q, e1, e2⟩ := Option.bind_eq_some_iff.mp h
  by_cases hk : keep? q.1.1 = true
  · rw [if_pos hk] at e2
    cases e2
    exact ⟨q, e1, hk, rfl⟩
  · rw [if_neg hk] at e2
    cases e2
theorem bindS {α β : Type} {o : Option α} {f : α → Option β} {r : β} (h : o.bind f = some r) : ∃ a, o = some a ∧ f a = some r := Option.bind_eq_some_iff.mp h
theorem mapS {α β : Type} {o : Option α} {f : α → β} {r : β} (h : o.map f = some r) : ∃ a, o = some a ∧ f a = r := Option.map_eq_some_iff.mp h
theorem iteS {α : Type} {b : Bool} {o : Option α} {r : α} (h : (if b = true then o else none) = some r) : b = true ∧ o = some r := by
  cases b with
  | false => cases h
  | true => exact ⟨rfl, h⟩
theorem and2 {a b : Bool} (h : (a && b) = true) : a = true ∧ b = true := by simpa using h
theorem and3 {a b c : Bool} (h : (a && b && c) = true) : a = true ∧ b = true ∧ c = true := by
  rw [Bool.and_eq_true, Bool.and_eq_true] at h
  exact ⟨h.1.1, h.1.2, h.2⟩
mutual
theorem pure_ev : ∀ (e : E) (ρ : En) (r : Sl × En), pureE e = true → ev cl e ρ = some r → r.2 = ρ
  | .v i, ρ, r, _, h => by
    simp only [ev] at h
    split at h <;> first | cases h; rfl | cases h
  | .gl _ _, ρ, r, _, h => by cases h; rfl
  | .int _, ρ, r, _, h => by cases h; rfl
  | .str _, ρ, r, _, h => by cases h; rfl
  | .bl _, ρ, r, _, h => by cases h; rfl
  | .non, ρ, r, _, h => by cases h; rfl
  | .tup es, ρ, r, hp, h => by
    simp only [ev] at h
    obtain ⟨a, h1, h2⟩ := bindS h
    have e := pure_evL es ρ a (by simpa [pureE] using hp) h1
    split at h2 <;> first | cases h2; exact e | cases h2
  | .lst es, ρ, r, hp, h => by
    simp only [ev] at h
    obtain ⟨a, h1, h2⟩ := bindS h
    have e := pure_evL es ρ a (by simpa [pureE] using hp) h1
    split at h2 <;> first | cases h2; exact e | cases h2
  | .bin o a b, ρ, r, hp, h => by
    simp only [ev] at h
    obtain ⟨x, h1, h2⟩ := bindS h
    obtain ⟨_, h2⟩ := iteS h2
    obtain ⟨y, h3, h4⟩ := bindS h2
    obtain ⟨_, h4⟩ := iteS h4
    obtain ⟨z, _, rfl⟩ := mapS h4
    have hp' := and2 (show (pureE a && pureE b) = true by simpa [pureE] using hp)
    have e1 := pure_ev a ρ x hp'.1 h1
    have e2 := pure_ev b x.2 y hp'.2 h3
    exact e2.trans e1
  | .cmp o a b, ρ, r, hp, h => by
    simp only [ev] at h
    obtain ⟨x, h1, h2⟩ := bindS h
    obtain ⟨_, h2⟩ := iteS h2
    obtain ⟨y, h3, h4⟩ := bindS h2
    obtain ⟨_, h4⟩ := iteS h4
    obtain ⟨z, _, rfl⟩ := mapS h4
    have hp' := and2 (show (pureE a && pureE b) = true by simpa [pureE] using hp)
    have e1 := pure_ev a ρ x hp'.1 h1
    have e2 := pure_ev b x.2 y hp'.2 h3
    exact e2.trans e1
  | .idx a b, ρ, r, hp, h => by
    simp only [ev] at h
    obtain ⟨x, h1, h2⟩ := bindS h
    obtain ⟨_, h2⟩ := iteS h2
    obtain ⟨y, h3, h4⟩ := bindS h2
    obtain ⟨_, h4⟩ := iteS h4
    obtain ⟨z, _, rfl⟩ := mapS h4
    have hp' := and2 (show (pureE a && pureE b) = true by simpa [pureE] using hp)
    have e1 := pure_ev a ρ x hp'.1 h1
    have e2 := pure_ev b x.2 y hp'.2 h3
    exact e2.trans e1
  | .and a b, ρ, r, hp, h => by
    simp only [ev] at h
    obtain ⟨x, h1, h2⟩ := bindS h
    obtain ⟨q, k1, _, rfl⟩ := keepS_snd h1
    have hp' := and2 (show (pureE a && pureE b) = true by simpa [pureE] using hp)
    have e1 := pure_ev a ρ q hp'.1 k1
    obtain ⟨t, _, h2⟩ := bindS h2
    split at h2
    · obtain ⟨y, h3, rfl⟩ := mapS h2
      obtain ⟨q', k3, _, rfl⟩ := keepS_snd h3
      exact (pure_ev b q.2 q' hp'.2 k3).trans e1
    · cases h2; exact e1
  | .or a b, ρ, r, hp, h => by
    simp only [ev] at h
    obtain ⟨x, h1, h2⟩ := bindS h
    obtain ⟨q, k1, _, rfl⟩ := keepS_snd h1
    have hp' := and2 (show (pureE a && pureE b) = true by simpa [pureE] using hp)
    have e1 := pure_ev a ρ q hp'.1 k1
    obtain ⟨t, _, h2⟩ := bindS h2
    split at h2
    · cases h2; exact e1
    · obtain ⟨y, h3, rfl⟩ := mapS h2
      obtain ⟨q', k3, _, rfl⟩ := keepS_snd h3
      exact (pure_ev b q.2 q' hp'.2 k3).trans e1
  | .b2 f a b, ρ, r, hp, h => by
    simp only [ev] at h
    obtain ⟨x, h1, h2⟩ := bindS h
    obtain ⟨q, k1, _, rfl⟩ := keepS_snd h1
    have hp' := and2 (show (pureE a && pureE b) = true by simpa [pureE] using hp)
    have e1 := pure_ev a ρ q hp'.1 k1
    obtain ⟨y, h3, h4⟩ := bindS h2
    obtain ⟨q', k3, _, rfl⟩ := keepS_snd h3
    obtain ⟨z, _, rfl⟩ := mapS h4
    exact (pure_ev b q.2 q' hp'.2 k3).trans e1
  | .m1 f a b, ρ, r, hp, h => by
    simp only [ev] at h
    obtain ⟨x, h1, h2⟩ := bindS h
    obtain ⟨_, h2⟩ := iteS h2
    have hp' := and2 (show (pureE a && pureE b) = true by simpa [pureE] using hp)
    have e1 := pure_ev a ρ x hp'.1 h1
    obtain ⟨y, h3, h4⟩ := bindS h2
    obtain ⟨q', k3, _, rfl⟩ := keepS_snd h3
    obtain ⟨z, _, rfl⟩ := mapS h4
    exact (pure_ev b x.2 q' hp'.2 k3).trans e1
  | .slL a b, ρ, r, hp, h => by
    simp only [ev] at h
    obtain ⟨x, h1, h2⟩ := bindS h
    obtain ⟨_, h2⟩ := iteS h2
    have hp' := and2 (show (pureE a && pureE b) = true by simpa [pureE] using hp)
    have e1 := pure_ev a ρ x hp'.1 h1
    obtain ⟨y, h3, h4⟩ := bindS h2
    have e2 := pure_ev b x.2 y hp'.2 h3
    split at h4
    · obtain ⟨z, _, rfl⟩ := mapS h4
      exact e2.trans e1
    · cases h4
  | .slU a b, ρ, r, hp, h => by
    simp only [ev] at h
    obtain ⟨x, h1, h2⟩ := bindS h
    obtain ⟨_, h2⟩ := iteS h2
    have hp' := and2 (show (pureE a && pureE b) = true by simpa [pureE] using hp)
    have e1 := pure_ev a ρ x hp'.1 h1
    obtain ⟨y, h3, h4⟩ := bindS h2
    have e2 := pure_ev b x.2 y hp'.2 h3
    split at h4
    · obtain ⟨z, _, rfl⟩ := mapS h4
      exact e2.trans e1
    · cases h4
  | .neg a, ρ, r, hp, h => by
    simp only [ev] at h
    obtain ⟨x, h1, h2⟩ := bindS h
    have e1 := pure_ev a ρ x (by simpa [pureE] using hp) h1
    split at h2 <;> first | cases h2; exact e1 | cases h2
  | .not a, ρ, r, hp, h => by
    simp only [ev] at h
    obtain ⟨x, h1, h2⟩ := bindS h
    have e1 := pure_ev a ρ x (by simpa [pureE] using hp) h1
    obtain ⟨_, h2⟩ := iteS h2
    obtain ⟨z, _, rfl⟩ := mapS h2
    exact e1
  | .rev a, ρ, r, hp, h => by
    simp only [ev] at h
    obtain ⟨x, h1, h2⟩ := bindS h
    have e1 := pure_ev a ρ x (by simpa [pureE] using hp) h1
    obtain ⟨_, h2⟩ := iteS h2
    obtain ⟨z, _, rfl⟩ := mapS h2
    exact e1
  | .b1 f a, ρ, r, hp, h => by
    simp only [ev] at h
    obtain ⟨x, h1, h2⟩ := bindS h
    have e1 := pure_ev a ρ x (by simpa [pureE] using hp) h1
    obtain ⟨_, h2⟩ := iteS h2
    obtain ⟨z, _, rfl⟩ := mapS h2
    exact e1
  | .chain o o' a b c, ρ, r, hp, h => by
    simp only [ev] at h
    have hp' := and3 (show (pureE a && pureE b && pureE c) = true by simpa [pureE] using hp)
    obtain ⟨x, h1, h2⟩ := bindS h
    obtain ⟨_, h2⟩ := iteS h2
    have e1 := pure_ev a ρ x hp'.1 h1
    obtain ⟨y, h3, h4⟩ := bindS h2
    have e2 := pure_ev b x.2 y hp'.2.1 h3
    obtain ⟨_, h4⟩ := iteS h4
    obtain ⟨z, _, h5⟩ := bindS h4
    split at h5
    · obtain ⟨t, h6, h7⟩ := bindS h5
      have e3 := pure_ev c y.2 t hp'.2.2 h6
      obtain ⟨_, h7⟩ := iteS h7
      obtain ⟨_, _, rfl⟩ := mapS h7
      exact e3.trans (e2.trans e1)
    · cases h5
      exact e2.trans e1
  | .ite c a b, ρ, r, hp, h => by
    simp only [ev] at h
    have hp' := and3 (show (pureE c && pureE a && pureE b) = true by simpa [pureE] using hp)
    obtain ⟨x, h1, h2⟩ := bindS h
    obtain ⟨x0, h0, h00⟩ := bindS h1
    have e1 : x.2 = ρ := by
      unfold tst at h00
      obtain ⟨_, h00⟩ := iteS h00
      obtain ⟨_, _, rfl⟩ := mapS h00
      exact pure_ev c ρ x0 hp'.1 h0
    split at h2
    · obtain ⟨y, h3, h4⟩ := bindS h2
      obtain ⟨_, h4⟩ := iteS h4
      cases h4
      exact (pure_ev a x.2 _ hp'.2.1 h3).trans e1
    · obtain ⟨y, h3, h4⟩ := bindS h2
      obtain ⟨_, h4⟩ := iteS h4
      cases h4
      exact (pure_ev b x.2 _ hp'.2.2 h3).trans e1
  | .slLU a b c, ρ, r, hp, h => by
    simp only [ev] at h
    have hp' := and3 (show (pureE a && pureE b && pureE c) = true by simpa [pureE] using hp)
    obtain ⟨x, h1, h2⟩ := bindS h
    obtain ⟨_, h2⟩ := iteS h2
    have e1 := pure_ev a ρ x hp'.1 h1
    obtain ⟨y, h3, h4⟩ := bindS h2
    have e2 := pure_ev b x.2 y hp'.2.1 h3
    split at h4
    · obtain ⟨t, h6, h7⟩ := bindS h4
      have e3 := pure_ev c y.2 t hp'.2.2 h6
      split at h7
      · obtain ⟨z, _, rfl⟩ := mapS h7
        exact e3.trans (e2.trans e1)
      · cases h7
    · cases h4
  | .get2 a b c, ρ, r, hp, h => by
    simp only [ev] at h
    have hp' := and3 (show (pureE a && pureE b && pureE c) = true by simpa [pureE] using hp)
    obtain ⟨x, h1, h2⟩ := bindS h
    obtain ⟨_, h2⟩ := iteS h2
    have e1 := pure_ev a ρ x hp'.1 h1
    obtain ⟨y, h3, h4⟩ := bindS h2
    obtain ⟨q', k3, _, rfl⟩ := keepS_snd h3
    have e2 := pure_ev b x.2 q' hp'.2.1 k3
    obtain ⟨t, h6, h7⟩ := bindS h4
    obtain ⟨q2, k6, _, rfl⟩ := keepS_snd h6
    have e3 := pure_ev c q'.2 q2 hp'.2.2 k6
    obtain ⟨z, _, rfl⟩ := mapS h7
    exact e3.trans (e2.trans e1)
  | .call f as, ρ, r, hp, h => by
    simp only [ev] at h
    obtain ⟨x, h1, h2⟩ := bindS h
    obtain ⟨e1, e2⟩ := pure_evA as ρ x (by simpa [pureE] using hp) h1
    obtain ⟨_, h2⟩ := iteS h2
    obtain ⟨q, _, h3⟩ := bindS h2
    obtain ⟨_, h3⟩ := iteS h3
    obtain ⟨ρ', h4, rfl⟩ := mapS h3
    have key : ∀ (D : List (Dt ⊕ Nat)) (os : List Dt), (∀ y ∈ D, ∃ d, y = .inl d) → putIo x.2 D os = some ρ' → ρ' = x.2 := by
      intro D
      induction D with
      | nil => intro os _ h; cases os with
        | nil => cases h; rfl
        | cons a b => cases h
      | cons y D ih =>
        intro os hD h
        obtain ⟨d, rfl⟩ := hD y (List.mem_cons_self ..)
        cases os with
        | nil => cases h
        | cons a b => exact ih b (fun z hz => hD z (List.mem_cons_of_mem _ hz)) h
    exact (key _ _ e2 h4).trans e1
  | .sh _, _, _, hp, _ => by cases hp
  | .mv _, _, _, hp, _ => by cases hp
  | .app _ _, _, _, hp, _ => by cases hp
  | .ext _ _, _, _, hp, _ => by cases hp
  | .pop _, _, _, hp, _ => by cases hp
  | .io _, _, _, hp, _ => by cases hp
  | .comp _ _ _ _, _, _, hp, _ => by cases hp
  | .compIf _ _ _ _ _, _, _, hp, _ => by cases hp
  | .dcomp _ _ _ _ _, _, _, hp, _ => by cases hp
  | .dict _, _, _, hp, _ => by cases hp
  | .lrg _ _, _, _, hp, _ => by cases hp
  | .fl _ _, _, _, hp, _ => by cases hp
  | .mkS _ _, _, _, hp, _ => by cases hp
theorem pure_evL : ∀ (es : Es) (ρ : En) (r : List Dt × En), pureEs es = true → evL cl es ρ = some r → r.2 = ρ
  | .nil, ρ, r, _, h => by simp only [evL] at h; cases h; rfl
  | .cons e es, ρ, r, hp, h => by
    simp only [evL] at h
    have hp' := and2 (show (pureE e && pureEs es) = true by simpa [pureEs] using hp)
    obtain ⟨x, h1, h2⟩ := bindS h
    obtain ⟨q, k1, _, rfl⟩ := keepS_snd h1
    obtain ⟨y, h3, rfl⟩ := mapS h2
    exact (pure_evL es q.2 y hp'.2 h3).trans (pure_ev e ρ q hp'.1 k1)
  | .star e es, ρ, r, hp, h => by
    simp only [evL] at h
    have hp' := and2 (show (pureE e && pureEs es) = true by simpa [pureEs] using hp)
    obtain ⟨x, h1, h2⟩ := bindS h
    obtain ⟨_, h2⟩ := iteS h2
    obtain ⟨ds, _, h2⟩ := bindS h2
    obtain ⟨y, h3, rfl⟩ := mapS h2
    exact (pure_evL es x.2 y hp'.2 h3).trans (pure_ev e ρ x hp'.1 h1)
theorem pure_evA : ∀ (es : Es) (ρ : En) (r : (List (Dt ⊕ Nat) × List Nat) × En), pureEs es = true → evA cl es ρ = some r → r.2 = ρ ∧ ∀ y ∈ r.1.1, ∃ d, y = .inl d
  | .nil, ρ, r, _, h => by simp only [evA] at h; cases h; exact ⟨rfl, fun y hy => by cases hy⟩
  | .cons e es, ρ, r, hp, h => by
    have hp' := and2 (show (pureE e && pureEs es) = true by simpa [pureEs] using hp)
    by_cases hio : ∃ i, e = .io i
    · obtain ⟨i, rfl⟩ := hio
      cases hp'.1
    · have h' : (keepS (ev cl e ρ)).bind (fun x => (evA cl es x.2).map fun q => ((.inl x.1 :: q.1.1, q.1.2), q.2)) = some r := by
        rw [← h]
        cases e <;> first | rfl | exact absurd ⟨_, rfl⟩ hio
      obtain ⟨x, h1, h2⟩ := bindS h'
      obtain ⟨q, k1, _, rfl⟩ := keepS_snd h1
      obtain ⟨y, h3, rfl⟩ := mapS h2
      obtain ⟨e1, e2⟩ := pure_evA es q.2 y hp'.2 h3
      refine ⟨e1.trans (pure_ev e ρ q hp'.1 k1), fun z hz => ?_⟩
      rcases List.mem_cons.mp hz with rfl | hz
      · exact ⟨_, rfl⟩
      · exact e2 z hz
  | .star e es, ρ, r, hp, h => by simp only [evA] at h; cases h
end
end
end Mini

end
section
set_option Elab.async false
set_option linter.all false
set_option maxRecDepth 100000
set_option maxHeartbeats 4000000
/-! Mini, part 9: what a def promises; where a text stands; the check. -/
namespace Mini
open PySem PySem.Spec PyProof.Rows L2

/-! ### a def's promise: a meaning over data -/
/-- the arguments behind a call: the lent ones hold what is told -/
def outEn (as : List Sl) (os : List Dt) : En := List.zipWith (fun (s : Sl) o => some (s.1, if s.1 = .sh then s.2 else o)) as os
structure FnPost (K : PySem.W.Frag) (S : Addr → Prop) (F : Fs) (as : List Sl) (vs : List V) (H : Hp) (r : Sl × List Dt) (v : V) (H' : Hp) (A : List Addr) : Prop where
  len : r.2.length = as.length
  ok : okFl r.1.1 = true
  keep : ∀ b o, H b = some o → (∀ i, b ∉ F i) → H' b = some o
  there : ∀ b, H b ≠ none → H' b ≠ none
  new : ∀ a ∈ A, H a = none
  env : EnvOk K (addS S A) F (outEn as r.2) (vs.map some) H'
  res : SlotRep K (Wt (addS S A) F) H' r.1.1 v r.1.2 A
def spD (K : PySem.W.Frag) (φ : List Sl → Option (Sl × List Dt)) : Sp := fun vs H Q _ => ∃ S F as r, EnvOk K S F (as.map some) (vs.map some) H ∧ φ as = some r ∧ ∀ v H' A, FnPost K S F as vs H r v H' A → Q v H'
structure FnG (P : Program) (w : World) (K : PySem.W.Frag) (mg : Str → Option Value) (base : Heap) (k : Nat) (f : Addr) (fd : FuncData) (ps : List Str) (sp : Sp) : Prop where
  len : ∀ vs H Q E, sp vs H Q E → vs.length = ps.length
  run : ∀ (A : Around) (outer : List Env) (s : Shared) (H : Hp) (args : Args) (us : List Value) (vs : List V) (Q : VK) (E : XK), Room k A → A.guards = some [] → Env0 P w K mg base A outer s H → BindsTo s fd args (ps.zip us) → Vals vs us → sp vs H Q E →
    codeAny (model P w) A (.call (.ref f) args) (CR CX0 outer P w H s Q E) s
theorem FnG.of {P : Program} {w : World} {K : PySem.W.Frag} {mg : Str → Option Value} {base : Heap} {k : Nat} {f : Addr} {fd : FuncData} {ps : List Str} {sp : Sp} (F : FnOk P w K mg base CX0 k f fd ps sp) : FnG P w K mg base k f fd ps sp :=
  ⟨F.len, fun A outer s H args us vs Q E hr _ => F.run A outer s H args us vs Q E hr⟩
theorem FnG.mono {P : Program} {w : World} {K : PySem.W.Frag} {mg : Str → Option Value} {base : Heap} {j k : Nat} {f : Addr} {fd : FuncData} {ps : List Str} {sp : Sp} (F : FnG P w K mg base j f fd ps sp) (h : j ≤ k) : FnG P w K mg base k f fd ps sp :=
  ⟨F.len, fun A outer s H args us vs Q E hr => F.run A outer s H args us vs Q E (hr.mono h)⟩
section
variable {X : Cx} {k : Nat} {f : Addr} {fd : FuncData} {ps : List Str} {sp : Sp} {x : Str} {p pos : Pos} {e : Expr} {es : List Expr} {t : TA}
theorem pe_callG (F : FnG X.prog X.w X.K X.mg X.base k f fd ps sp) (hr : Room k X.A) (hgu : X.A.guards = some []) (hg : Gl X x) (hm : X.mg x = some (.ref f)) (hk : PySem.W.keepIn X.K (.ref f) = true) (hb : Binds X.K fd ps [])
    (ha : PA X (e :: es) t) (hdb : (x == ("__debug__" : Str)) = false) (he : starEach (e :: es) X.env = (false, eval e X.env) :: starEach es X.env) (hpl : (backTo pos (starEach es X.env)).any (·.1) = false) :
    PE X (.Call (.Name x p) (e :: es) [] pos) (tCall sp [] E0 t) := by
  refine ⟨fun pins s σ H Q I h => ?_⟩
  refine wpAny_Call_Name_kw (ld_glob I hg hm ?_ hdb)
  refine PySem.W.callWith_K (h₀ := X.base) I.ok.mod.kin hk (thn (ha.run pos pins s σ H _ I h) fun us s1 ⟨vs, H1, I1, r, q⟩ => ⟨I1.kIn, ?_⟩) he hpl
  have q : sp vs H1 Q E0 := by
    have q' : sp (vs ++ []) H1 Q E0 := q
    rwa [List.append_nil] at q'
  have hl : (us ++ ([] : List Value)).length = ps.length := by rw [List.append_nil, ← r.length]; exact F.len _ _ _ _ q
  have hbn := hb s1 us I1.kIn hl
  rw [List.append_nil] at hbn
  refine wpAny_call (codeAny_mono (F.run X.A X.stack s1 H1 ⟨us, []⟩ us vs Q E0 hr hgu I1.env0 hbn r q) fun r' s' hq => ?_)
  cases r' with
  | error e => exact False.elim hq
  | ok fl =>
    cases fl with
    | ret u => exact I1.after hq
    | next => exact False.elim hq
    | brk => exact False.elim hq
    | cont => exact False.elim hq
end

/-! ### where a text stands -/
def freeN : List Str := ["len", "abs", "tuple", "list", "sum", "sorted", "int", "str", "repr", "all", "any", "max", "min", "range", "enumerate", "zip"]
structure Gd (cl : CallS) (N : List Str) (sc st : Scope) (X : Cx) : Prop where
  eN : X.N = N
  nd : N.Nodup
  es : X.env.scope = sc
  calm : X.calm = true
  xe : X.xe = fun _ _ => False
  guards : X.A.guards = some []
  room : X.A.units + 100 < cLine
  st : ∀ x, (st.names.lookup x = some .local ∨ st.names.lookup x = some .cell) → L2.Loc sc x ∧ (X.fn x = true ∨ sc.names.lookup x = some .local)
  free : ∀ x ∈ freeN, X.mg x = none
  fns : ∀ f as r, cl f as = some r → ∃ k a fd ps, X.mg f = some (.ref a) ∧ PySem.W.keepIn X.K (.ref a) = true ∧ Binds X.K fd ps [] ∧ Room k X.A ∧ FnG X.prog X.w X.K X.mg X.base k a fd ps (spD X.K (cl f))
theorem Gd.blk {cl : CallS} {N : List Str} {sc st : Scope} {X : Cx} (g : Gd cl N sc st X) (s : Shared) (H : Hp) (scope : Scope) (cs : List (Str × Addr)) (C : Addr) (fp : List Addr) :
    Gd cl N (relS scope sc) scope (X.blk s H scope (compEnvC scope cs C X.env) fp) := by
  refine ⟨g.eN, g.nd, ?_, g.calm, rfl, g.guards, g.room, fun x h => ?_, g.free, g.fns⟩
  · rw [← g.es]
    rfl
  · rcases h with h | h
    · exact ⟨.inl (lookup_relS_keep (by decide) h), .inr (lookup_relS_keep (by decide) h)⟩
    · refine ⟨.inr (lookup_relS_keep (by decide) h), .inl ?_⟩
      show (scope.names.lookup x == some .cell) = true
      rw [h]
      rfl

/-! ### the check -/
def isVis (sc : Scope) (x : Str) : Bool := match sc.names.lookup x with
  | some .local | some .cell | some .free => true
  | _ => false
def isSto (st : Scope) (x : Str) : Bool := match st.names.lookup x with
  | some .local | some .cell => true
  | _ => false
def isGlo (sc : Scope) (x : Str) : Bool := match sc.names.lookup x with
  | some .globalImplicit => true
  | _ => false
def notDun (x : Str) : Bool := !(x == ("__debug__" : Str)) && !(x == ("__classdict__" : Str)) && !(x == ("__name__" : Str))
def b1N : B1 → Str
  | .len => "len" | .abs => "abs" | .tuple => "tuple" | .list => "list" | .sum => "sum" | .sorted => "sorted" | .int => "int" | .str => "str" | .repr => "repr" | .all => "all" | .any => "any" | .max => "max" | .min => "min"
def b2N : B2 → Str
  | .max => "max" | .min => "min"
def ownOf (N : List Str) (own : List Nat) : List (Str × Nat) := own.map fun i => (N.getD i "", i)
def notSet : Expr → Bool
  | .Set .. => false
  | _ => true
section
variable (N : List Str)
def chkNm (sc : Scope) (i : Nat) : Expr → Bool
  | .Name x _ => decide (N[i]? = some x) && isVis sc x && notDun x
  | _ => false
def chkGl (sc : Scope) (n : Str) : Expr → Bool
  | .Name x _ => decide (x = n) && isGlo sc x && notDun x
  | _ => false
mutual
def chkP (st : Scope) : Pat → Expr → Bool
  | .nm i, .Name x _ => decide (N[i]? = some x) && isSto st x
  | .tp ps, .Tuple es _ _ => chkPs st ps es
  | _, _ => false
def chkPs (st : Scope) : Pats → List Expr → Bool
  | .nil, [] => true
  | .cons p ps, e :: es => chkP st p e && chkPs st ps es
  | _, _ => false
end
mutual
def slots : Pat → List Nat
  | .nm i => [i]
  | .tp ps => slotss ps
def slotss : Pats → List Nat
  | .nil => []
  | .cons p ps => slots p ++ slotss ps
end
mutual
def chkE (sc : Scope) : E → Expr → Bool
  | .v i, e => chkNm N sc i e
  | .sh i, e => chkNm N sc i e
  | .mv i, e => chkNm N sc i e
  | .int i, .Constant (.int j) _ _ => decide (i = j)
  | .str x, .Constant (.str y) _ _ => decide (x = y)
  | .bl b, .Constant (.bool c) _ _ => b == c
  | .non, .Constant .none _ _ => true
  | .tup es, .Tuple l _ _ => chkL sc es l
  | .lst es, .List l _ => chkL sc es l
  | .bin o a b, .BinOp x op y _ => decide (op = boOp o) && chkE sc a x && chkE sc b y
  | .neg a, .UnaryOp .USub x _ => chkE sc a x
  | .not a, .UnaryOp .Not x _ => chkE sc a x
  | .cmp o a b, .Compare x [op] [y] _ => decide (op = coOp o) && chkE sc a x && chkE sc b y
  | .chain o o' a b c, .Compare x [op, op'] [y, z] _ => decide (op = coOp o) && decide (op' = coOp o') && chkE sc a x && chkE sc b y && chkE sc c z
  | .and a b, .BoolOp .And (x :: y :: r) pos => chkE sc a x && (match r with | [] => chkE sc b y | _ => chkE sc b (.BoolOp .And (y :: r) pos))
  | .or a b, .BoolOp .Or (x :: y :: r) pos => chkE sc a x && (match r with | [] => chkE sc b y | _ => chkE sc b (.BoolOp .Or (y :: r) pos))
  | .ite c a b, .IfExp x y z _ => chkE sc c x && chkE sc a y && chkE sc b z
  | .idx a b, .Subscript x y _ => chkE sc a x && chkE sc b y
  | .slL a b, .Subscript x (.Slice (some y) none none _) _ => chkE sc a x && chkE sc b y
  | .slU a b, .Subscript x (.Slice none (some y) none _) _ => chkE sc a x && chkE sc b y
  | .slLU a b c, .Subscript x (.Slice (some y) (some z) none _) _ => chkE sc a x && chkE sc b y && chkE sc c z
  | .rev a, .Subscript x (.Slice none none (some (.UnaryOp .USub (.Constant (.int 1) _ _) _)) _) _ => chkE sc a x
  | .b1 f a, .Call n [x] [] _ => chkGl sc (b1N f) n && chkE sc a x
  | .b2 f a b, .Call n [x, y] [] _ => chkGl sc (b2N f) n && chkE sc a x && chkE sc b y
  | .call f as, .Call n (x :: xs) [] _ => chkGl sc f n && chkA sc as (x :: xs)
  | .app i a, .Call (.Attribute n m ap) [x] [] cp => chkNm N sc i n && decide (m = "append") && (ap.endLine == cp.line) && chkE sc a x
  | .ext i a, .Call (.Attribute n m ap) [x] [] cp => chkNm N sc i n && decide (m = "extend") && (ap.endLine == cp.line) && chkE sc a x
  | .pop i, .Call (.Attribute n m ap) [] [] cp => chkNm N sc i n && decide (m = "pop") && (ap.endLine == cp.line)
  | .comp elt p it own, .ListComp x [⟨tg, iter, [], 0⟩] scope _ => blkC N sc scope (ownOf N own) && (slots p).all (own.contains ·) && chkP N scope p tg && chkE (relS scope sc) elt x && chkI sc it iter tg
  | .compIf elt p it own c, .ListComp x [⟨tg, iter, [y], 0⟩] scope _ => blkC N sc scope (ownOf N own) && (slots p).all (own.contains ·) && chkP N scope p tg && chkE (relS scope sc) elt x && chkE (relS scope sc) c y && chkI sc it iter tg
  | .dcomp k v p it own, .DictComp x y [⟨tg, iter, [], 0⟩] scope _ => blkC N sc scope (ownOf N own) && (slots p).all (own.contains ·) && chkP N scope p tg && chkE (relS scope sc) k x && chkE (relS scope sc) v y && chkI sc it iter tg
  | .fl i k, .Subscript n (.Constant (.str y) _ _) _ => chkNm N sc i n && decide (k = y)
  | .mkS c m, .Dict [some (.Constant (.str k1) _ _), some (.Constant (.str k2) _ _), some (.Constant (.str k3) _ _), some (.Constant (.str k4) _ _)] [x, .Constant (.int l) _ _, y, .Constant (.int t) _ _] _ =>
    decide (k1 = "cells") && decide (k2 = "left") && decide (k3 = "mixed") && decide (k4 = "turn") && decide (l = 1) && decide (t = 0) && chkE sc c x && chkE sc m y
  | .lrg a b, .Call n [.Call n' [x, y] [] _] [] _ => chkGl sc "list" n && chkGl sc "range" n' && chkE sc a x && chkE sc b y
  | _, _ => false
def chkL (sc : Scope) : Es → List Expr → Bool
  | .nil, [] => true
  | .cons a r, x :: xs => chkE sc a x && chkL sc r xs
  | .star a r, .Starred x _ :: xs => chkE sc a x && chkL sc r xs
  | _, _ => false
def chkA (sc : Scope) : Es → List Expr → Bool
  | .nil, [] => true
  | .cons (.io i) r, x :: xs => chkNm N sc i x && chkA sc r xs
  | .cons a r, x :: xs => chkE sc a x && chkA sc r xs
  | _, _ => false
def chkI (sc : Scope) : It → Expr → Expr → Bool
  | .e a, x, _ => chkE sc a x
  | .scr i, x, _ => chkNm N sc i x
  | .rng1 a, .Call n [x] [] _, _ => chkGl sc "range" n && chkE sc a x
  | .rng2 a b, .Call n [x, y] [] _, _ => chkGl sc "range" n && chkE sc a x && chkE sc b y
  | .rng3 a b c, .Call n [x, y, z] [] _, _ => chkGl sc "range" n && chkE sc a x && chkE sc b y && chkE sc c z
  | .enum a, .Call n [x] [] _, .Tuple .. => chkGl sc "enumerate" n && chkE sc a x
  | .zip a b, .Call n [x, y] [] _, .Tuple .. => chkGl sc "zip" n && chkE sc a x && chkE sc b y
  | _, _, _ => false
end
end
end Mini

end
section
set_option Elab.async false
set_option linter.all false
set_option maxRecDepth 100000
set_option maxHeartbeats 4000000
/-! Mini, part 10: each expression's rule. -/
namespace Mini
open PySem PySem.Spec PyProof.Rows L2
section
variable {K : PySem.W.Frag} {S : Addr → Prop} {F F1 F2 : Fs} {σ : L2.St} {H H1 H2 : Hp} {ρ ρ1 ρ2 : En}
theorem addS0 : addS S [] = S := funext fun a => propext addS_nil
theorem Go.shared (g : Go K S F σ H F1 ρ1 H1) {d : Dt} {v : V} (r : Rep K (Wt S F1) H1 d v) : PostE K S F σ H ((.sh, d), ρ1) v H1 F1 [] :=
  ⟨g.env.nil, .slot rfl (.sh (by rw [addS0]; exact r)), g.fr, g.sub, fun a h => (by cases h), fun a h => (by cases h)⟩
theorem set_self {i : Nat} {v : V} (h : σ[i]? = some (some v)) : σ.set i (some v) = σ := by
  obtain ⟨hi, e⟩ := List.getElem?_eq_some_iff.mp h
  rw [← e]
  exact List.set_getElem_self hi
theorem rd_lt {i : Nat} {s : Sl} (h : rd ρ i = some s) : i < ρ.length := by
  unfold rd at h
  by_cases hi : i < ρ.length
  · exact hi
  · rw [List.getElem?_eq_none (by omega)] at h
    cases h
/-- a slot's own object is shared from now on -/
theorem EnvOk.share {i : Nat} {d : Dt} (e : EnvOk K S F ρ σ H) (h : rd ρ i = some (.own, d)) :
    ∃ v, σ[i]? = some (some v) ∧ EnvOk K S (setF F i []) (ρ.set i (some (.sh, d))) σ H ∧ Rep K (Wt S (setF F i [])) H d v := by
  obtain ⟨v, hv, r⟩ := e.slot i .own d h
  have e1 := e.drop i
  have sub : ∀ a, Wt S (setF F i []) a → Wt S F a := fun a z => by
    rcases z with z | ⟨j, z⟩
    · exact .inl z
    · by_cases hj : j = i
      · subst hj; rw [setF_same] at z; cases z
      · rw [setF_ne hj] at z; exact .inr ⟨j, z⟩
  have rr : Rep K (Wt S (setF F i [])) H d v := r.share rfl sub fun a ha z => by
    rcases z with z | ⟨j, z⟩
    · exact e.ext i a ha z
    · by_cases hj : j = i
      · subst hj; rw [setF_same] at z; cases z
      · rw [setF_ne hj] at z
        exact hj (e.dis j i a z ha)
  have e2 : EnvOk K S (setF F i []) (ρ.set i none) σ H := e1.weak fun _ => .inl
  have e3 := EnvOk.set (A := []) (i := i) (v := v) (fl := .sh) (d := d) (by rw [addS0]; exact e2) (.sh (by rw [addS0]; exact rr)) (by simpa using rd_lt h) (fun a h => by cases h)
  have q1 : setF (setF F i []) i [] = setF F i [] := funext fun j => by unfold setF; split <;> rfl
  rw [q1, List.set_set, set_self hv] at e3
  exact ⟨v, hv, e3, rr⟩
theorem setF_sub {i : Nat} : ∀ j, setF F i [] j = F j ∨ setF F i [] j = [] := fun j => by
  by_cases hj : j = i
  · subst hj; exact .inr setF_same
  · exact .inl (setF_ne hj)
theorem setF_fr {i : Nat} : Fr F H (setF F i []) H := ⟨fun _ _ e _ => e, fun j b h => by
  by_cases hj : j = i
  · subst hj; rw [setF_same] at h; cases h
  · rw [setF_ne hj] at h; exact .inl ⟨j, h⟩, fun _ h => h⟩
end
section
variable {X : Cx} {cl : CallS} {N : List Str} {sc st : Scope}
/-! ### names -/
theorem isVis_ok {x : Str} (h : isVis sc x = true) : L2.Vis sc x := by
  unfold isVis at h
  unfold L2.Vis
  split at h <;> simp_all
theorem isGlo_ok {x : Str} (h : isGlo sc x = true) : sc.names.lookup x = some .globalImplicit := by
  unfold isGlo at h
  split at h <;> simp_all
theorem notDun_ok {x : Str} (h : notDun x = true) : (x == ("__debug__" : Str)) = false ∧ (x == ("__classdict__" : Str)) = false ∧ x ≠ "__name__" := by
  unfold notDun at h
  simp only [Bool.and_eq_true, Bool.not_eq_true'] at h
  exact ⟨h.1.1, h.1.2, fun e => by rw [e] at h; simp at h⟩
theorem pe_nm (g : Gd cl N sc st X) {i : Nat} {e : Expr} (h : chkNm N sc i e = true) : PE X e (tVar i) := by
  unfold chkNm at h
  split at h
  · simp only [Bool.and_eq_true, decide_eq_true_eq] at h
    obtain ⟨⟨h1, h2⟩, h3⟩ := h
    obtain ⟨a, b, _⟩ := notDun_ok h3
    exact pe_var (by rw [g.eN]; exact h1) (by rw [g.es]; exact isVis_ok h2) a b
  · cases h
theorem w_v {i : Nat} : ∀ σ H Q, tD X.K (ev cl (.v i)) σ H Q → tVar i σ H Q := by
  rintro σ H Q ⟨S, F, ρ, r, e, h1, h2⟩
  simp only [ev] at h1
  split at h1
  · rename_i d hr
    cases h1
    obtain ⟨v, hv, q⟩ := e.slot i _ _ hr
    refine ⟨v, hv, h2 v H F [] ?_⟩
    generalize F i = A at q
    cases q with
    | sh q => exact (Go.refl e).shared q
  · rename_i d hr
    cases h1
    obtain ⟨v, hv, q⟩ := e.slot i _ _ hr
    exact ⟨v, hv, h2 v H F [] ⟨e.nil, .bo hr hv, Fr.refl F H, fun _ => .inl rfl, fun a h => (by cases h), fun a h => (by cases h)⟩⟩
  · cases h1
theorem w_sh {i : Nat} : ∀ σ H Q, tD X.K (ev cl (.sh i)) σ H Q → tVar i σ H Q := by
  rintro σ H Q ⟨S, F, ρ, r, e, h1, h2⟩
  simp only [ev] at h1
  split at h1
  · rename_i d hr
    cases h1
    obtain ⟨v, hv, q⟩ := e.slot i _ _ hr
    refine ⟨v, hv, h2 v H F [] ?_⟩
    generalize F i = A at q
    cases q with
    | sh q => exact (Go.refl e).shared q
  · rename_i d hr
    cases h1
    obtain ⟨v, hv, e', q⟩ := e.share hr
    exact ⟨v, hv, h2 v H _ [] (Go.shared ⟨e', setF_fr, setF_sub⟩ q)⟩
  · cases h1
theorem mv_post {S : Addr → Prop} {F : Fs} {ρ : En} {σ : L2.St} {H : Hp} {i : Nat} {fl : Fl} {d : Dt} (e : EnvOk X.K S F ρ σ H) (hr : rd ρ i = some (fl, d)) (hf : okFl fl = true) :
    ∃ v, σ[i]? = some (some v) ∧ PostE X.K S F σ H ((fl, d), ρ.set i none) v H (setF F i []) (F i) := by
  obtain ⟨v, hv, q⟩ := e.slot i _ _ hr
  refine ⟨v, hv, e.drop i, .slot hf (q.mono (fun a z => ?_) e.wt), setF_fr, setF_sub, fun a h => .inl ⟨i, h⟩, fun a h => e.ext i a h⟩
  rcases z with (z | z) | ⟨j, z⟩
  · exact .inl z
  · exact .inr ⟨i, z⟩
  · by_cases hj : j = i
    · subst hj; rw [setF_same] at z; cases z
    · rw [setF_ne hj] at z; exact .inr ⟨j, z⟩
theorem w_mv {i : Nat} : ∀ σ H Q, tD X.K (ev cl (.mv i)) σ H Q → tVar i σ H Q := by
  rintro σ H Q ⟨S, F, ρ, r, e, h1, h2⟩
  simp only [ev] at h1
  split at h1
  · rename_i d hr
    cases h1
    obtain ⟨v, hv, q⟩ := e.slot i _ _ hr
    refine ⟨v, hv, h2 v H F [] ?_⟩
    generalize F i = A at q
    cases q with
    | sh q => exact (Go.refl e).shared q
  · rename_i d hr
    cases h1
    obtain ⟨v, hv, q⟩ := mv_post e hr rfl
    exact ⟨v, hv, h2 v H _ _ q⟩
  · rename_i d hr
    cases h1
    obtain ⟨v, hv, q⟩ := mv_post e hr rfl
    exact ⟨v, hv, h2 v H _ _ q⟩
  · cases h1
theorem w_c {d : Dt} {v : V} {e : E} (he : ∀ ρ, ev cl e ρ = some ((.sh, d), ρ)) (hr : ∀ W H, Rep X.K W H d v) : ∀ σ H Q, tD X.K (ev cl e) σ H Q → tC v σ H Q := by
  rintro σ H Q ⟨S, F, ρ, r, e, h1, h2⟩
  rw [he] at h1
  cases h1
  exact h2 v H F [] ((Go.refl e).shared (hr _ _))

/-! ### argument lists, displays -/
def tL (K : PySem.W.Frag) (f : En → Option (List Dt × En)) : TA := fun σ H Q => ∃ S F ρ r, EnvOk K S F ρ σ H ∧ f ρ = some r ∧ ∀ vs H' F', Go K S F σ H F' r.2 H' → Reps K (Wt S F') H' r.1 vs → Q vs H'
theorem pa_w {es : List Expr} {t t' : TA} (h : PA X es t) (w : ∀ σ H Q, t' σ H Q → t σ H Q) : PA X es t' := ⟨fun pos pins s σ H Q I q => h.run pos pins s σ H Q I (w σ H Q q)⟩
theorem pa_nil_ : PA X [] (tL X.K (evL cl .nil)) := pa_w pa_nil fun σ H Q ⟨S, F, ρ, r, e, h1, h2⟩ => by
  simp only [evL] at h1
  cases h1
  exact h2 [] H F (Go.refl e) rfl
theorem pa_cons_ {a : E} {r : Es} {x : Expr} {xs : List Expr} (h1 : PE X x (tD X.K (ev cl a))) (h2 : PA X xs (tL X.K (evL cl r))) (hs : starEach (x :: xs) X.env = (false, eval x X.env) :: starEach xs X.env) : PA X (x :: xs) (tL X.K (evL cl (.cons a r))) :=
  pa_w (pa_cons (pe_k h1) h2 hs) fun σ H Q ⟨S, F, ρ, z, e, k1, k2⟩ => by
    simp only [evL] at k1
    obtain ⟨p, e1, k1⟩ := bindS k1
    obtain ⟨q, e2, rfl⟩ := mapS k1
    refine ⟨S, F, ρ, p, e, e1, fun v H1 F1 p1 => ⟨S, F1, p.2, q, p1.go.env, e2, fun vs H2 F2 g2 r2 => ?_⟩⟩
    exact k2 _ _ _ (p1.go.trans g2) (.cons (g2.rep p1.rep) r2)
theorem pa_star_ {a : E} {r : Es} {x : Expr} {xs : List Expr} {p : Pos} (h1 : PE X x (tD X.K (ev cl a))) (h2 : PA X xs (tL X.K (evL cl r))) : PA X (.Starred x p :: xs) (tL X.K (evL cl (.star a r))) :=
  pa_w (StX.pa_star h1 h2) fun σ H Q ⟨S, F, ρ, z, e, k1, k2⟩ => by
    simp only [evL] at k1
    obtain ⟨p, e1, k1⟩ := bindS k1
    obtain ⟨hr, k1⟩ := iteS k1
    obtain ⟨ds, e3, k1⟩ := bindS k1
    obtain ⟨q, e2, rfl⟩ := mapS k1
    refine ⟨S, F, ρ, p, e, e1, fun v H1 F1 A1 p1 => ?_⟩
    obtain ⟨a, ys, rfl, hy, q1⟩ := (p1.now hr).seq e3
    refine ⟨a, ys, rfl, hy, S, F1, p.2, q, p1.go.env, e2, fun vs H2 F2 g2 r2 => ?_⟩
    exact k2 _ _ _ (p1.go.trans g2) ((g2.reps q1).append r2)
theorem pe_tup_ {es : Es} {l : List Expr} {k : Nat} {pos : Pos} (h : PA X l (tL X.K (evL cl es))) : PE X (.Tuple l k pos) (tD X.K (ev cl (.tup es))) := pe_w (pe_tup h) fun σ H Q ⟨S, F, ρ, r, e, h1, h2⟩ => by
  simp only [ev] at h1
  obtain ⟨p, e1, h1⟩ := bindS h1
  by_cases hl : p.1.length ≤ lim
  · rw [if_pos hl] at h1
    cases h1
    refine ⟨S, F, ρ, p, e, e1, fun vs H1 F1 g1 r1 => ⟨?_, fun a ha => ?_⟩⟩
    · rw [← r1.length]; exact lim_line hl
    · obtain ⟨A, q⟩ := (NewV.tup ha r1).post g1
      exact h2 _ _ _ _ q
  · rw [if_neg hl] at h1
    cases h1
theorem pe_lst_ {es : Es} {l : List Expr} {pos : Pos} (h : PA X l (tL X.K (evL cl es))) : PE X (.List l pos) (tD X.K (ev cl (.lst es))) := pe_w (pe_lst h) fun σ H Q ⟨S, F, ρ, r, e, h1, h2⟩ => by
  simp only [ev] at h1
  obtain ⟨p, e1, h1⟩ := bindS h1
  by_cases hl : p.1.length ≤ lim
  · rw [if_pos hl] at h1
    cases h1
    refine ⟨S, F, ρ, p, e, e1, fun vs H1 F1 g1 r1 => ⟨?_, fun a ha => ?_⟩⟩
    · rw [← r1.length]; exact lim_line hl
    · obtain ⟨A, q⟩ := (NewV.lst ha r1).post g1
      exact h2 _ _ _ _ q
  · rw [if_neg hl] at h1
    cases h1

/-! ### operators -/
theorem okBo_pure {a b : E} (i : Nat) (h : okBo (.bo i) b = true) : ∀ ρ q, ev cl b ρ = some q → q.2 = ρ := fun ρ q e => pure_ev cl b ρ q h e
theorem pe_bin_ {o : Bo} {a b : E} {x y : Expr} {pos : Pos} (ha : PE X x (tD X.K (ev cl a))) (hb : PE X y (tD X.K (ev cl b))) : PE X (.BinOp x (boOp o) y pos) (tD X.K (ev cl (.bin o a b))) :=
  pe_w (pe_op (op_bin o) ha hb) (two_w (okb := fun fl => okBo fl b) (fun i h => okBo_pure (a := a) i h) fun ρ r h => by
    simp only [ev] at h
    obtain ⟨p, e1, h⟩ := bindS h
    obtain ⟨c1, h⟩ := iteS h
    obtain ⟨c1, c2⟩ := and2 c1
    obtain ⟨q, e2, h⟩ := bindS h
    obtain ⟨c3, h⟩ := iteS h
    obtain ⟨z, e3, rfl⟩ := mapS h
    exact ⟨p, q, z, e1, c1, c2, e2, c3, e3, rfl⟩)
theorem cmp_w {o : Co} {a b : E} : ∀ ρ r, ev cl (.cmp o a b) ρ = some r → ∃ p q z, ev cl a ρ = some p ∧ read? p.1.1 = true ∧ okBo p.1.1 b = true ∧ ev cl b p.2 = some q ∧ read? q.1.1 = true ∧ cmpS o p.1.2 q.1.2 = some z ∧ r = (z, q.2) := fun ρ r h => by
  simp only [ev] at h
  obtain ⟨p, e1, h⟩ := bindS h
  obtain ⟨c1, h⟩ := iteS h
  obtain ⟨c1, c2⟩ := and2 c1
  obtain ⟨q, e2, h⟩ := bindS h
  obtain ⟨c3, h⟩ := iteS h
  obtain ⟨z, e3, rfl⟩ := mapS h
  exact ⟨p, q, _, e1, c1, c2, e2, c3, by unfold cmpS; rw [e3]; rfl, rfl⟩
theorem chkE_set {a : E} {k : Nat} {es : List Expr} {p : Pos} : chkE N sc a (.Set es k p) = false := by cases a <;> rfl
theorem chkE_star {a : E} {e : Expr} {p : Pos} : chkE N sc a (.Starred e p) = false := by cases a <;> rfl
theorem chkE_slice {a : E} {x y z : Option Expr} {p : Pos} : chkE N sc a (.Slice x y z p) = false := by cases a <;> rfl
theorem noBehind {a : E} {x : Expr} (h : chkE N sc a x = true) (op : CmpOp) : behindInMarks op x = false := by
  cases x <;> first | rfl | (rw [chkE_set] at h; cases h)
theorem noStar {a : E} {x : Expr} (h : chkE N sc a x = true) (xs : List Expr) (env : Env) : starEach (x :: xs) env = (false, eval x env) :: starEach xs env := by
  cases x <;> first | rfl | (rw [chkE_star] at h; cases h)
theorem plainIx {a : E} {x : Expr} (h : chkE N sc a x = true) : PlainIx x := by
  intro o i
  cases x <;> first | rfl | (rw [chkE_slice] at h; cases h)
theorem pe_cmp_ (g : Gd cl N sc st X) {o : Co} {a b : E} {x y : Expr} {pos : Pos} (hy : behindInMarks (coOp o) y = false) (ha : PE X x (tD X.K (ev cl a))) (hb : PE X y (tD X.K (ev cl b))) : PE X (.Compare x [coOp o] [y] pos) (tD X.K (ev cl (.cmp o a b))) :=
  pe_w (pe_cmpR (op_cmp (by have := g.room; omega) o) ha hb hy) (two_w (okb := fun fl => okBo fl b) (fun i h => okBo_pure (a := a) i h) cmp_w)
theorem pt_cmp_ (g : Gd cl N sc st X) {o : Co} {a b : E} {x y : Expr} {pos : Pos} (hy : behindInMarks (coOp o) y = false) (ha : PE X x (tD X.K (ev cl a))) (hb : PE X y (tD X.K (ev cl b))) : PT X (.Compare x [coOp o] [y] pos) (tT X.K (tv cl (.cmp o a b))) :=
  pt_w (pt_cmpR (op_cmp (by have := g.room; omega) o) ha hb hy) fun σ H Q ⟨S, F, ρ, r, e, h1, h2⟩ => by
    unfold tv at h1
    obtain ⟨p, e1, h1⟩ := bindS h1
    refine two_w (okb := fun fl => okBo fl b) (fun i h => okBo_pure (a := a) i h) cmp_w σ H _ ⟨S, F, ρ, p, e, e1, fun v H' F' A q => ?_⟩
    obtain ⟨_, q', z, _, _, _, _, _, ez, rfl⟩ := cmp_w ρ p e1
    obtain ⟨b', _, rfl⟩ := mapS ez
    cases h1
    have e3 : v = .bl b' := q.rep rfl
    exact ⟨b', e3, h2 H' F' q.go⟩
theorem pe_chain_ (g : Gd cl N sc st X) {o o' : Co} {a b c : E} {x y z : Expr} {pos : Pos} (hz : behindInMarks (coOp o') z = false) (ha : PE X x (tD X.K (ev cl a))) (hb : PE X y (tD X.K (ev cl b))) (hc : PE X z (tD X.K (ev cl c))) :
    PE X (.Compare x [coOp o, coOp o'] [y, z] pos) (tD X.K (ev cl (.chain o o' a b c))) ∧ PT X (.Compare x [coOp o, coOp o'] [y, z] pos) (tT X.K (tv cl (.chain o o' a b c))) := by
  have hu : X.A.units + 65 < cLine := by have := g.room; omega
  have key : ∀ σ H Q, tD X.K (ev cl (.chain o o' a b c)) σ H Q → tChain (rMk X.K (cmpS o)) (rMk X.K (cmpS o')) (tD X.K (ev cl a)) (tD X.K (ev cl b)) (tD X.K (ev cl c)) σ H Q := by
    rintro σ H Q ⟨S, F, ρ, r, e, h1, h2⟩
    simp only [ev] at h1
    obtain ⟨p, e1, h1⟩ := bindS h1
    obtain ⟨c1, h1⟩ := iteS h1
    obtain ⟨q, e2, h1⟩ := bindS h1
    obtain ⟨c2, h1⟩ := iteS h1
    obtain ⟨w, e3, h1⟩ := bindS h1
    refine ⟨S, F, ρ, p, e, e1, fun v H1 F1 A1 p1 => ⟨S, F1, p.2, q, p1.go.env, e2, fun u H2 F2 A2 p2 => ?_⟩⟩
    refine ⟨Wt S F2, p.1.2, q.1.2, (.sh, .bool w), (p2.go.rep (p1.rep c1)).rd, (p2.rep c2).rd, by unfold cmpS; rw [e3]; rfl, fun t H3 n => ?_⟩
    cases n with
    | old n =>
      have n' : t = .bl w := n
      subst n'
      refine ⟨w, rfl, ?_⟩
      cases w with
      | false =>
        cases h1
        exact h2 _ _ _ _ ((p1.go.trans p2.go).shared rfl)
      | true =>
        obtain ⟨r3, e4, h1⟩ := bindS h1
        obtain ⟨c3, h1⟩ := iteS h1
        obtain ⟨w', e5, rfl⟩ := mapS h1
        refine ⟨S, F2, q.2, r3, p2.go.env, e4, fun u3 H3 F3 A3 p3 => ?_⟩
        refine ⟨Wt S F3, q.1.2, r3.1.2, (.sh, .bool w'), (p3.go.rep (p2.rep c2)).rd, p3.now c3, by unfold cmpS; rw [e5]; rfl, fun t H4 n => ?_⟩
        cases n with
        | old n =>
          have n' : t = .bl w' := n
          subst n'
          exact h2 _ _ _ _ (((p1.go.trans p2.go).trans p3.go).shared rfl)
  have hm : lastMarks [coOp o, coOp o'] [y, z] = false := hz
  refine ⟨pe_w (pe_chain (op_cmp hu o) (op_cmp hu o') ha hb hc hm) key, pt_w (pt_chain (op_cmp hu o) (op_cmp hu o') ha hb hc hm) fun σ H Q ⟨S, F, ρ, r, e, h1, h2⟩ => ?_⟩
  unfold tv at h1
  obtain ⟨p, e1, h1⟩ := bindS h1
  refine key σ H _ ⟨S, F, ρ, p, e, e1, fun v H' F' A q => ?_⟩
  have hp : ∃ b', p.1 = (.sh, .bool b') := by
    simp only [ev] at e1
    obtain ⟨p1, _, h1⟩ := bindS e1
    obtain ⟨_, h1⟩ := iteS h1
    obtain ⟨q, _, h1⟩ := bindS h1
    obtain ⟨_, h1⟩ := iteS h1
    obtain ⟨w, _, h1⟩ := bindS h1
    split at h1
    · obtain ⟨r3, _, h1⟩ := bindS h1
      obtain ⟨_, h1⟩ := iteS h1
      obtain ⟨w', _, rfl⟩ := mapS h1
      exact ⟨_, rfl⟩
    · cases h1
      exact ⟨_, rfl⟩
  obtain ⟨b', hb'⟩ := hp
  obtain ⟨⟨fl, d⟩, ρ'⟩ := p
  cases hb'
  cases h1
  have e3 : v = .bl b' := q.rep rfl
  exact ⟨b', e3, h2 H' F' q.go⟩
theorem pe_idx_ (g : Gd cl N sc st X) {a b : E} {x y : Expr} {pos : Pos} (hy : PlainIx y) (ha : PE X x (tD X.K (ev cl a))) (hb : PE X y (tD X.K (ev cl b))) : PE X (.Subscript x y pos) (tD X.K (ev cl (.idx a b))) :=
  pe_w (pe_ix (ix_mini (by have := g.room; omega)) ha hb hy) (two_w (okb := fun fl => okBo fl b) (fun i h => okBo_pure (a := a) i h) fun ρ r h => by
    simp only [ev] at h
    obtain ⟨p, e1, h⟩ := bindS h
    obtain ⟨c1, h⟩ := iteS h
    obtain ⟨c1, c2⟩ := and2 c1
    obtain ⟨q, e2, h⟩ := bindS h
    obtain ⟨c3, h⟩ := iteS h
    obtain ⟨z, e3, rfl⟩ := mapS h
    exact ⟨p, q, _, e1, c1, c2, e2, c3, by unfold idxS; rw [e3]; rfl, rfl⟩)
theorem pe_neg_ {a : E} {x : Expr} {pos : Pos} (ha : PE X x (tD X.K (ev cl a))) : PE X (.UnaryOp .USub x pos) (tD X.K (ev cl (.neg a))) := pe_w (pe_un un_neg ha) fun σ H Q ⟨S, F, ρ, r, e, h1, h2⟩ => by
  simp only [ev] at h1
  obtain ⟨⟨⟨fl, d⟩, ρ'⟩, e1, h1⟩ := bindS h1
  cases d with
  | int i =>
    cases h1
    refine ⟨S, F, ρ, _, e, e1, fun v H1 F1 A1 p1 => ?_⟩
    have hv : v = .int i := by
      cases p1.res with
      | slot hf q =>
        cases q with
        | sh q => exact q
      | bo k1 k2 =>
        obtain ⟨v', hv', q⟩ := p1.env.slot _ _ _ k1
        rename_i j
        generalize F1 j = A' at q
        cases q
    exact ⟨i, hv, h2 _ _ _ _ (p1.go.shared rfl)⟩
  | _ => cases h1
/-! ### truth -/
theorem tru_V {W : Addr → Prop} {H : Hp} {d : Dt} {v : V} {b : Bool} (h : tru d = some b) (r : RdW X.K W H d v) : TruV X.K v H b := by
  cases d with
  | none => cases h; cases (show v = _ from r); rfl
  | bool c => cases h; cases (show v = _ from r); rfl
  | int i =>
    cases h
    cases (show v = _ from r)
    show decide (i ≠ 0) = (i != 0)
    by_cases hi : i = 0 <;> simp [hi]
  | str y =>
    cases (show v = _ from r)
    unfold tru at h
    by_cases hl : y.length ≤ lim
    · simp only [hl, if_true] at h
      cases h
      refine ⟨lim_line hl, ?_⟩
      by_cases h0 : y.length = 0 <;> simp [h0]
    · simp only [hl, if_false] at h
      cases h
  | list xs =>
    cases h
    obtain ⟨a, ys, rfl, q, rr⟩ := r
    refine .inl ⟨ys, SqL.of q, ?_⟩
    have := rr.length
    cases xs <;> cases ys <;> simp_all
  | tuple xs =>
    cases h
    have r' : Rep X.K W H (.tuple xs) v := r
    obtain ⟨a, ys, rfl, q, rr⟩ := r'.tup
    refine .inr (.inl ⟨ys, q, ?_⟩)
    have := rr.length
    cases xs <;> cases ys <;> simp_all
  | dict es =>
    cases h
    obtain ⟨a, ys, rfl, q, rr⟩ := r
    refine .inr (.inr ⟨ys, q, ?_⟩)
    cases es with
    | nil =>
      have e : ys = [] := rr
      subst e
      rfl
    | cons p es =>
      obtain ⟨kd, d⟩ := p
      obtain ⟨_, _, _, rfl, _⟩ := rr
      rfl
theorem pt_truth_ {a : E} {x : Expr} (he : ∀ whole, isTrue x X.env whole = (do let v ← whole; standAt x.pos; holding [v] (truthy v))) (ha : PE X x (tD X.K (ev cl a))) : PT X x (tT X.K (tv cl a)) :=
  pt_w (pt_truth ha he) fun σ H Q ⟨S, F, ρ, r, e, h1, h2⟩ => by
    unfold tv tst at h1
    obtain ⟨p, e1, h1⟩ := bindS h1
    obtain ⟨c1, h1⟩ := iteS h1
    obtain ⟨b, e2, rfl⟩ := mapS h1
    exact ⟨S, F, ρ, p, e, e1, fun v H1 F1 A1 p1 => ⟨b, tru_V e2 (p1.now c1), h2 _ _ p1.go⟩⟩
theorem pe_not_ {a : E} {x : Expr} {pos : Pos} (ha : PE X x (tD X.K (ev cl a))) : PE X (.UnaryOp .Not x pos) (tD X.K (ev cl (.not a))) := pe_w (pe_notT ha) fun σ H Q ⟨S, F, ρ, r, e, h1, h2⟩ => by
  simp only [ev] at h1
  obtain ⟨p, e1, h1⟩ := bindS h1
  obtain ⟨c1, h1⟩ := iteS h1
  obtain ⟨b, e2, rfl⟩ := mapS h1
  exact ⟨S, F, ρ, p, e, e1, fun v H1 F1 A1 p1 => ⟨b, tru_V e2 (p1.now c1), h2 _ _ _ _ (p1.go.shared rfl)⟩⟩
theorem pt_not_ {a : E} {x : Expr} {pos : Pos} (ha : PT X x (tT X.K (tv cl a))) : PT X (.UnaryOp .Not x pos) (tT X.K (tv cl (.not a))) := pt_w (pt_not ha) fun σ H Q ⟨S, F, ρ, r, e, h1, h2⟩ => by
  unfold tv at h1
  obtain ⟨p, e1, h1⟩ := bindS h1
  simp only [ev] at e1
  obtain ⟨p0, e0, e1⟩ := bindS e1
  obtain ⟨c1, e1⟩ := iteS e1
  obtain ⟨b, e2, rfl⟩ := mapS e1
  cases h1
  refine ⟨S, F, ρ, (b, p0.2), e, ?_, fun H' F' g => h2 H' F' g⟩
  unfold tv tst
  rw [e0]
  show (if read? p0.1.1 = true then (tru p0.1.2).map (fun b => (b, p0.2)) else none) = _
  rw [if_pos c1, e2]
  rfl
theorem pe_and_ {a b : E} {x y : Expr} {r : List Expr} {pos : Pos} (ha : PE X x (tD X.K (ev cl a))) (hb : PE X (.BoolOp .And (y :: r) pos) (tD X.K (ev cl b))) : PE X (.BoolOp .And (x :: y :: r) pos) (tD X.K (ev cl (.and a b))) :=
  pe_w (pe_andT (pe_k ha) (pe_k hb)) fun σ H Q ⟨S, F, ρ, r, e, h1, h2⟩ => by
    simp only [ev] at h1
    obtain ⟨p, e1, h1⟩ := bindS h1
    obtain ⟨t, e2, h1⟩ := bindS h1
    refine ⟨S, F, ρ, p, e, e1, fun v H1 F1 p1 => ⟨t, tru_V e2 p1.rep.rd, ?_⟩⟩
    cases t with
    | false =>
      cases h1
      exact h2 _ _ _ _ (p1.go.shared p1.rep)
    | true =>
      obtain ⟨q, e3, rfl⟩ := mapS h1
      exact ⟨S, F1, p.2, q, p1.go.env, e3, fun u H2 F2 p2 => h2 _ _ _ _ ((p1.go.trans p2.go).shared p2.rep)⟩
theorem pe_or_ {a b : E} {x y : Expr} {r : List Expr} {pos : Pos} (ha : PE X x (tD X.K (ev cl a))) (hb : PE X (.BoolOp .Or (y :: r) pos) (tD X.K (ev cl b))) : PE X (.BoolOp .Or (x :: y :: r) pos) (tD X.K (ev cl (.or a b))) :=
  pe_w (pe_orT (pe_k ha) (pe_k hb)) fun σ H Q ⟨S, F, ρ, r, e, h1, h2⟩ => by
    simp only [ev] at h1
    obtain ⟨p, e1, h1⟩ := bindS h1
    obtain ⟨t, e2, h1⟩ := bindS h1
    refine ⟨S, F, ρ, p, e, e1, fun v H1 F1 p1 => ⟨t, tru_V e2 p1.rep.rd, ?_⟩⟩
    cases t with
    | true =>
      cases h1
      exact h2 _ _ _ _ (p1.go.shared p1.rep)
    | false =>
      obtain ⟨q, e3, rfl⟩ := mapS h1
      exact ⟨S, F1, p.2, q, p1.go.env, e3, fun u H2 F2 p2 => h2 _ _ _ _ ((p1.go.trans p2.go).shared p2.rep)⟩
/-- a kept value's test -/
theorem tv_keep {a : E} {ρ : En} {p : Dt × En} {t : Bool} (e1 : keepS (ev cl a ρ) = some p) (e2 : tru p.1 = some t) : tv cl a ρ = some (t, p.2) := by
  obtain ⟨q, k1, k2, rfl⟩ := keepS_snd e1
  have k3 : read? q.1.1 = true := by cases h : q.1.1 <;> simp_all [keep?, read?]
  have e2' : tru q.1.2 = some t := e2
  unfold tv tst
  rw [k1]
  show (if read? q.1.1 = true then (tru q.1.2).map (fun b => (b, q.2)) else none) = _
  rw [if_pos k3, e2']
  rfl
theorem pt_and_ {a b : E} {x y : Expr} {r : List Expr} {pos : Pos} (ha : PT X x (tT X.K (tv cl a))) (hb : PW X (.BoolOp .And (y :: r) pos) (tT X.K (tv cl b))) : PW X (.BoolOp .And (x :: y :: r) pos) (tT X.K (tv cl (.and a b))) :=
  pw_w (pw_and ha hb) fun σ H Q ⟨S, F, ρ, r, e, h1, h2⟩ => by
    unfold tv at h1
    obtain ⟨z, e0, h1⟩ := bindS h1
    simp only [ev] at e0
    obtain ⟨p, e1, e0⟩ := bindS e0
    obtain ⟨t, e2, e0⟩ := bindS e0
    refine ⟨S, F, ρ, (t, p.2), e, tv_keep e1 e2, fun H1 F1 g1 => ?_⟩
    cases t with
    | false =>
      cases e0
      have h3 : r = (false, p.2) := by
        have h1' : ((tru p.1).map fun b => (b, p.2)) = some r := h1
        rw [e2] at h1'
        exact (Option.some.inj h1').symm
      subst h3
      exact h2 _ _ g1
    | true =>
      obtain ⟨q, e3, rfl⟩ := mapS e0
      have h1' : ((tru q.1).map fun b => (b, q.2)) = some r := h1
      obtain ⟨t', e4, rfl⟩ := mapS h1'
      exact ⟨S, F1, p.2, (t', q.2), g1.env, tv_keep e3 e4, fun H2 F2 g2 => h2 _ _ (g1.trans g2)⟩
theorem pt_or_ {a b : E} {x y : Expr} {r : List Expr} {pos : Pos} (ha : PT X x (tT X.K (tv cl a))) (hb : PW X (.BoolOp .Or (y :: r) pos) (tT X.K (tv cl b))) : PW X (.BoolOp .Or (x :: y :: r) pos) (tT X.K (tv cl (.or a b))) :=
  pw_w (pw_or ha hb) fun σ H Q ⟨S, F, ρ, r, e, h1, h2⟩ => by
    unfold tv at h1
    obtain ⟨z, e0, h1⟩ := bindS h1
    simp only [ev] at e0
    obtain ⟨p, e1, e0⟩ := bindS e0
    obtain ⟨t, e2, e0⟩ := bindS e0
    refine ⟨S, F, ρ, (t, p.2), e, tv_keep e1 e2, fun H1 F1 g1 => ?_⟩
    cases t with
    | true =>
      cases e0
      have h3 : r = (true, p.2) := by
        have h1' : ((tru p.1).map fun b => (b, p.2)) = some r := h1
        rw [e2] at h1'
        exact (Option.some.inj h1').symm
      subst h3
      exact h2 _ _ g1
    | false =>
      obtain ⟨q, e3, rfl⟩ := mapS e0
      have h1' : ((tru q.1).map fun b => (b, q.2)) = some r := h1
      obtain ⟨t', e4, rfl⟩ := mapS h1'
      exact ⟨S, F1, p.2, (t', q.2), g1.env, tv_keep e3 e4, fun H2 F2 g2 => h2 _ _ (g1.trans g2)⟩
theorem pe_ite_ {c a b : E} {x y z : Expr} {pos : Pos} (hc : PT X x (tT X.K (tv cl c))) (ha : PE X y (tD X.K (ev cl a))) (hb : PE X z (tD X.K (ev cl b))) : PE X (.IfExp x y z pos) (tD X.K (ev cl (.ite c a b))) :=
  pe_w (pe_ifExp hc ha hb) fun σ H Q ⟨S, F, ρ, r, e, h1, h2⟩ => by
    simp only [ev] at h1
    obtain ⟨p, e1, h1⟩ := bindS h1
    refine ⟨S, F, ρ, p, e, e1, fun H1 F1 g1 => ?_⟩
    have go : ∀ {q : Sl × En} {v : V} {H2 : Hp} {F2 : Fs} {A : List Addr}, PostE X.K S F1 σ H1 q v H2 F2 A → PostE X.K S F σ H q v H2 F2 A := fun p2 =>
      ⟨p2.env, p2.res, (g1.trans p2.go).fr, (g1.trans p2.go).sub, fun a ha => by
        rcases p2.new a ha with ⟨j, hj⟩ | hn
        · exact g1.fr.new j a hj
        · cases h : H a with
          | none => exact .inr rfl
          | some o => exact absurd hn (g1.fr.there a (by rw [h]; exact Option.some_ne_none _)), p2.apart⟩
    cases hp : p.1 with
    | true =>
      rw [hp, if_pos rfl] at h1
      obtain ⟨q, e2, h1⟩ := bindS h1
      obtain ⟨c2, h1⟩ := iteS h1
      cases h1
      exact ⟨S, F1, p.2, _, g1.env, e2, fun v H2 F2 A p2 => h2 _ _ _ _ (go p2)⟩
    | false =>
      rw [hp, if_neg Bool.false_ne_true] at h1
      obtain ⟨q, e2, h1⟩ := bindS h1
      obtain ⟨c2, h1⟩ := iteS h1
      cases h1
      exact ⟨S, F1, p.2, _, g1.env, e2, fun v H2 F2 A p2 => h2 _ _ _ _ (go p2)⟩
theorem pt_ite_ {c a b : E} {x y z : Expr} {pos : Pos} (hc : PT X x (tT X.K (tv cl c))) (ha : PT X y (tT X.K (tv cl a))) (hb : PT X z (tT X.K (tv cl b))) : PT X (.IfExp x y z pos) (tT X.K (tv cl (.ite c a b))) := by
  have base : PT X (.IfExp x y z pos) (fun σ H Q => tT X.K (tv cl c) σ H fun t H1 => if t = true then tT X.K (tv cl a) σ H1 Q else tT X.K (tv cl b) σ H1 Q) := by
    refine ⟨fun pins s σ H Q I h => ?_⟩
    refine isTrue_IfExp (thn (hc.run pins s σ H _ I h) fun t s1 ⟨H1, I1, q1⟩ => ?_)
    cases t with
    | true => exact ha.run pins s1 σ H1 Q I1 q1
    | false => exact hb.run pins s1 σ H1 Q I1 q1
  refine pt_w base fun σ H Q ⟨S, F, ρ, r, e, h1, h2⟩ => ?_
  unfold tv at h1
  obtain ⟨w, e0, h1⟩ := bindS h1
  simp only [ev] at e0
  obtain ⟨p, e1, e0⟩ := bindS e0
  refine ⟨S, F, ρ, p, e, e1, fun H1 F1 g1 => ?_⟩
  cases hp : p.1 with
  | true =>
    rw [hp, if_pos rfl] at e0
    obtain ⟨q, e2, e0⟩ := bindS e0
    obtain ⟨c2, e0⟩ := iteS e0
    cases e0
    exact ⟨S, F1, p.2, r, g1.env, by unfold tv; rw [e2]; exact h1, fun H2 F2 g2 => h2 _ _ (g1.trans g2)⟩
  | false =>
    rw [hp, if_neg Bool.false_ne_true] at e0
    obtain ⟨q, e2, e0⟩ := bindS e0
    obtain ⟨c2, e0⟩ := iteS e0
    cases e0
    exact ⟨S, F1, p.2, r, g1.env, by unfold tv; rw [e2]; exact h1, fun H2 F2 g2 => h2 _ _ (g1.trans g2)⟩
end
end Mini

end
section
set_option Elab.async false
set_option linter.all false
set_option maxRecDepth 100000
set_option maxHeartbeats 4000000
/-! Mini, part 11: cuts, built-in functions, calls, list methods. -/
namespace Mini
open PySem PySem.Spec PyProof.Rows L2
section
variable {X : Cx} {cl : CallS} {N : List Str} {sc st : Scope}
theorem PostE.int {K : PySem.W.Frag} {S : Addr → Prop} {F : Fs} {σ : L2.St} {H : Hp} {r : Sl × En} {v : V} {H1 : Hp} {F1 : Fs} {A : List Addr} (p : PostE K S F σ H r v H1 F1 A) {i : Int} (h : r.1.2 = .int i) : v = .int i := by
  obtain ⟨⟨fl, d⟩, ρ'⟩ := r
  have h' : d = .int i := h
  subst h'
  cases p.res with
  | slot hf q =>
    cases q with
    | sh q => exact q
  | bo k1 k2 =>
    obtain ⟨v', hv', q⟩ := p.env.slot _ _ _ k1
    rename_i j
    generalize F1 j = A' at q
    cases q
theorem pe_slL_ {a b : E} {x y : Expr} {p2 pos : Pos} (ha : PE X x (tD X.K (ev cl a))) (hb : PE X y (tD X.K (ev cl b))) : PE X (.Subscript x (.Slice (some y) none none p2) pos) (tD X.K (ev cl (.slL a b))) :=
  pe_w (pe_slice sl_mini ha (po_some hb) po_none) fun σ H Q ⟨S, F, ρ, r, e, h1, h2⟩ => by
    simp only [ev] at h1
    obtain ⟨p, e1, h1⟩ := bindS h1
    obtain ⟨c1, h1⟩ := iteS h1
    obtain ⟨c1, c2⟩ := and2 c1
    obtain ⟨q, e2, h1⟩ := bindS h1
    split at h1
    · rename_i i hi
      obtain ⟨z, e3, rfl⟩ := mapS h1
      refine ⟨S, F, ρ, p, e, e1, fun v H1 F1 A1 p1 => ⟨S, F1, p.2, q, p1.go.env, e2, fun w H2 F2 A2 p2 => ⟨i, p2.int hi, Wt S F2, p.1.2, z, p1.later c1 p2.go (fun j hj => ?_), e3, fun u H3 n => ?_⟩⟩⟩
      · rw [hj] at c2; exact pure_ev cl b _ _ c2 e2
      · obtain ⟨A, t⟩ := n.post (p1.go.trans p2.go)
        exact h2 _ _ _ _ t
    · cases h1
theorem pe_slU_ {a b : E} {x y : Expr} {p2 pos : Pos} (ha : PE X x (tD X.K (ev cl a))) (hb : PE X y (tD X.K (ev cl b))) : PE X (.Subscript x (.Slice none (some y) none p2) pos) (tD X.K (ev cl (.slU a b))) :=
  pe_w (pe_slice sl_mini ha po_none (po_some hb)) fun σ H Q ⟨S, F, ρ, r, e, h1, h2⟩ => by
    simp only [ev] at h1
    obtain ⟨p, e1, h1⟩ := bindS h1
    obtain ⟨c1, h1⟩ := iteS h1
    obtain ⟨c1, c2⟩ := and2 c1
    obtain ⟨q, e2, h1⟩ := bindS h1
    split at h1
    · rename_i i hi
      obtain ⟨z, e3, rfl⟩ := mapS h1
      refine ⟨S, F, ρ, p, e, e1, fun v H1 F1 A1 p1 => ⟨S, F1, p.2, q, p1.go.env, e2, fun w H2 F2 A2 p2 => ⟨i, p2.int hi, Wt S F2, p.1.2, z, p1.later c1 p2.go (fun j hj => ?_), e3, fun u H3 n => ?_⟩⟩⟩
      · rw [hj] at c2; exact pure_ev cl b _ _ c2 e2
      · obtain ⟨A, t⟩ := n.post (p1.go.trans p2.go)
        exact h2 _ _ _ _ t
    · cases h1
theorem pe_slLU_ {a b c : E} {x y y2 : Expr} {p2 pos : Pos} (ha : PE X x (tD X.K (ev cl a))) (hb : PE X y (tD X.K (ev cl b))) (hc : PE X y2 (tD X.K (ev cl c))) : PE X (.Subscript x (.Slice (some y) (some y2) none p2) pos) (tD X.K (ev cl (.slLU a b c))) :=
  pe_w (pe_slice sl_mini ha (po_some hb) (po_some hc)) fun σ H Q ⟨S, F, ρ, r, e, h1, h2⟩ => by
    simp only [ev] at h1
    obtain ⟨p, e1, h1⟩ := bindS h1
    obtain ⟨c1, h1⟩ := iteS h1
    obtain ⟨c1, c2, c3⟩ := and3 c1
    obtain ⟨q, e2, h1⟩ := bindS h1
    split at h1
    · rename_i i hi
      obtain ⟨q2, e4, h1⟩ := bindS h1
      split at h1
      · rename_i j hj
        obtain ⟨z, e3, rfl⟩ := mapS h1
        refine ⟨S, F, ρ, p, e, e1, fun v H1 F1 A1 p1 => ⟨S, F1, p.2, q, p1.go.env, e2, fun w H2 F2 A2 p2 => ⟨i, p2.int hi, S, F2, q.2, q2, p2.go.env, e4, fun w3 H3 F3 A3 p3 => ⟨j, p3.int hj, Wt S F3, p.1.2, z, p1.later c1 (p2.go.trans p3.go) (fun j hj => ?_), e3, fun u H4 n => ?_⟩⟩⟩⟩
        · rw [hj] at c2 c3
          rw [pure_ev cl c _ _ c3 e4]
          exact pure_ev cl b _ _ c2 e2
        · obtain ⟨A, t⟩ := n.post ((p1.go.trans p2.go).trans p3.go)
          exact h2 _ _ _ _ t
      · cases h1
    · cases h1
theorem pe_rev_ {a : E} {x : Expr} {k : Nat} {p1 p2 p3 pos : Pos} (ha : PE X x (tD X.K (ev cl a))) : PE X (.Subscript x (.Slice none none (some (.UnaryOp .USub (.Constant (.int 1) k p1) p2)) p3) pos) (tD X.K (ev cl (.rev a))) :=
  pe_w (pe_rev1 ha) fun σ H Q ⟨S, F, ρ, r, e, h1, h2⟩ => by
    simp only [ev] at h1
    obtain ⟨p, e1, h1⟩ := bindS h1
    obtain ⟨c1, h1⟩ := iteS h1
    obtain ⟨z, e3, rfl⟩ := mapS h1
    refine ⟨S, F, ρ, p, e, e1, fun v H1 F1 A1 p1 => ⟨Wt S F1, p.1.2, z, p1.now c1, e3, fun u H3 n => ?_⟩⟩
    obtain ⟨A, t⟩ := n.post p1.go
    exact h2 _ _ _ _ t

/-! ### built-in functions -/
theorem chkGl_ok {n : Str} {e : Expr} (h : chkGl sc n e = true) : ∃ p, e = .Name n p ∧ isGlo sc n = true ∧ notDun n = true := by
  unfold chkGl at h
  split at h
  · simp only [Bool.and_eq_true, decide_eq_true_eq] at h
    obtain ⟨⟨h1, h2⟩, h3⟩ := h
    subst h1
    exact ⟨_, rfl, h2, h3⟩
  · cases h
theorem Gd.gl (g : Gd cl N sc st X) {n : Str} (h : isGlo sc n = true) : L2.Gl X n := by
  unfold L2.Gl Env.kindOf
  rw [g.es]
  exact isGlo_ok h
theorem pe_call1 {f : Value} {r : List V → Hp → VK → Prop} {n : Str} {p pos : Pos} {e : Expr} {t : TA} (hf : (∃ id, f = .builtin id) ∨ ∃ T, f = .type T) (hc : CallR X f r) (hg : L2.Gl X n) (hm : X.mg n = none) (hv : bootBuiltins n = some f)
    {es : List Expr} (ha : PA X (e :: es) t) (hn : n ≠ "__name__") (hdb : (n == ("__debug__" : Str)) = false) (he : starEach (e :: es) X.env = (false, eval e X.env) :: starEach es X.env) (hpl : (backTo pos (starEach es X.env)).any (·.1) = false) :
    PE X (.Call (.Name n p) (e :: es) [] pos) (tCB r t) := by
  rcases hf with ⟨id, rfl⟩ | ⟨T, rfl⟩
  · exact pe_callB hc hg hm hv ha hn hdb he hpl
  · exact pe_callTy hc hg hm hv ha hn hdb he hpl
theorem b1F_kind (f : B1) : (∃ id, b1F f = .builtin id) ∨ ∃ T, b1F f = .type T := by cases f <;> first | exact .inl ⟨_, rfl⟩ | exact .inr ⟨_, rfl⟩
theorem boot_b1 (f : B1) : bootBuiltins (b1N f) = some (b1F f) := by cases f <;> decide +kernel
theorem free_b1 (f : B1) : b1N f ∈ freeN := by cases f <;> simp [b1N, freeN]
theorem pe_b1_ (g : Gd cl N sc st X) {f : B1} {a : E} {n x : Expr} {pos : Pos} (hn : chkGl sc (b1N f) n = true) (hx : ∀ xs env, starEach (x :: xs) env = (false, eval x env) :: starEach xs env) (ha : PE X x (tD X.K (ev cl a))) :
    PE X (.Call n [x] [] pos) (tD X.K (ev cl (.b1 f a))) := by
  obtain ⟨p, rfl, h1, h2⟩ := chkGl_ok hn
  obtain ⟨d1, d2, d3⟩ := notDun_ok h2
  refine pe_w (pe_call1 (b1F_kind f) (b1_mini g.calm g.guards (by have := g.room; omega) f) (g.gl h1) (g.free _ (free_b1 f)) (boot_b1 f) (pa_cons ha pa_nil (hx _ _)) d3 d1 (hx _ _) rfl) (one_w fun ρ r h => ?_)
  simp only [ev] at h
  obtain ⟨p, e1, h⟩ := bindS h
  obtain ⟨c1, h⟩ := iteS h
  obtain ⟨z, e3, rfl⟩ := mapS h
  exact ⟨p, z, e1, c1, e3, rfl⟩
theorem b2F_kind (f : B2) : (∃ id, b2F f = .builtin id) ∨ ∃ T, b2F f = .type T := by cases f <;> exact .inl ⟨_, rfl⟩
theorem boot_b2 (f : B2) : bootBuiltins (b2N f) = some (b2F f) := by cases f <;> decide +kernel
theorem free_b2 (f : B2) : b2N f ∈ freeN := by cases f <;> simp [b2N, freeN]
theorem pe_b2_ (g : Gd cl N sc st X) {f : B2} {a b : E} {n x y : Expr} {pos : Pos} (hn : chkGl sc (b2N f) n = true) (hx : ∀ xs env, starEach (x :: xs) env = (false, eval x env) :: starEach xs env) (hy : ∀ xs env, starEach (y :: xs) env = (false, eval y env) :: starEach xs env)
    (ha : PE X x (tD X.K (ev cl a))) (hb : PE X y (tD X.K (ev cl b))) : PE X (.Call n [x, y] [] pos) (tD X.K (ev cl (.b2 f a b))) := by
  obtain ⟨p, rfl, h1, h2⟩ := chkGl_ok hn
  obtain ⟨d1, d2, d3⟩ := notDun_ok h2
  refine pe_w (pe_call1 (b2F_kind f) (b2_mini g.calm f) (g.gl h1) (g.free _ (free_b2 f)) (boot_b2 f) (pa_cons (pe_k ha) (pa_cons (pe_k hb) pa_nil (hy _ _)) (hx _ _)) d3 d1 (hx _ _) (by rw [hy]; rfl)) fun σ H Q ⟨S, F, ρ, r, e, h1, h2⟩ => ?_
  simp only [ev] at h1
  obtain ⟨p, e1, h1⟩ := bindS h1
  obtain ⟨q, e2, h1⟩ := bindS h1
  obtain ⟨z, e3, rfl⟩ := mapS h1
  refine ⟨S, F, ρ, p, e, e1, fun v H1 F1 p1 => ⟨S, F1, p.2, q, p1.go.env, e2, fun w H2 F2 p2 => ⟨Wt S F2, p.1, q.1, z, v, w, rfl, (p2.go.rep p1.rep).rd, p2.rep.rd, e3, fun u H3 n => ?_⟩⟩⟩
  obtain ⟨A, t⟩ := n.post (p1.go.trans p2.go)
  exact h2 _ _ _ _ t

/-! ### list methods -/
theorem own_list {K : PySem.W.Frag} {S : Addr → Prop} {F : Fs} {ρ : En} {σ : L2.St} {H : Hp} {i : Nat} {ds : List Dt} (e : EnvOk K S F ρ σ H) (h : rd ρ i = some (.own, .list ds)) :
    ∃ a xs, σ[i]? = some (some (.ref a)) ∧ H a = some (.lst xs) ∧ Reps K (Wt S F) H ds xs ∧ F i = [a] := by
  obtain ⟨v, hv, q⟩ := e.slot i _ _ h
  generalize hA : F i = A at q
  cases q with
  | lst h1 h2 => exact ⟨_, _, hv, h1, h2, rfl⟩
theorem put_list {K : PySem.W.Frag} {S : Addr → Prop} {F : Fs} {ρ : En} {σ : L2.St} {H : Hp} {i : Nat} {ds : List Dt} {a : Addr} {xs : List V} (e : EnvOk K S F ρ σ H) (hi : i < ρ.length) (hv : σ[i]? = some (some (.ref a))) (hF : F i = [a])
    (r : Reps K (Wt S F) H ds xs) : EnvOk K S F (ρ.set i (some (.own, .list ds))) σ (upd H a (.lst xs)) ∧ Fr F H F (upd H a (.lst xs)) := by
  have ha : a ∈ F i := by rw [hF]; exact List.mem_singleton.mpr rfl
  refine ⟨e.put hi ha hv (.inl ⟨_, upd_same⟩) ?_, Fr.put ha⟩
  rw [hF]
  refine .lst upd_same (r.step (fun b o q n => ?_) fun b z => .inl z)
  rw [upd_ne fun z => n (.inr ⟨i, by rw [z]; exact ha⟩)]
  exact q
theorem attrNm {n : Expr} {i : Nat} (h : chkNm N sc i n = true) (m : Str) (env : Env) : attributeBase n m env (eval n env) = eval n env := by
  unfold chkNm at h
  split at h
  · rfl
  · cases h
theorem pe_app_ (g : Gd cl N sc st X) {i : Nat} {a : E} {n x : Expr} {ap cp : Pos} (hn : chkNm N sc i n = true) (hl : (ap.endLine == cp.line) = true) (hx : ∀ xs env, starEach (x :: xs) env = (false, eval x env) :: starEach xs env)
    (ha : PE X x (tD X.K (ev cl a))) : PE X (.Call (.Attribute n "append" ap) [x] [] cp) (tD X.K (ev cl (.app i a))) := by
  refine pe_w (pe_bm PySem.F.plainAttrs_list PySem.F.slot_list_append PySem.F.type_list_append mt_append (pe_nm g hn) (pa_cons (pe_k ha) pa_nil (hx _ _)) (attrNm hn _ _) (by rw [hx]; rfl) hl (hx _ _) rfl) fun σ H Q ⟨S, F, ρ, r, e, h1, h2⟩ => ?_
  simp only [ev] at h1
  split at h1
  · rename_i ds hr
    obtain ⟨p, e1, h1⟩ := bindS h1
    obtain ⟨l, xs, hv, hl, _, hF⟩ := own_list e hr
    refine ⟨_, hv, .inl ⟨rfl, _, SqL.of hl⟩, S, F, ρ, p, e, e1, fun v H1 F1 p1 => ?_⟩
    split at h1
    · rename_i ys hr1
      obtain ⟨l', zs, hv', hl', rs, hF'⟩ := own_list p1.go.env hr1
      rw [hv] at hv'
      cases hv'
      by_cases hlen : ys.length < lim
      · rw [if_pos hlen] at h1
        cases h1
        refine ⟨l, zs, v, rfl, rfl, hl', ?_, ?_⟩
        · rw [← rs.length]; exact Nat.lt_of_lt_of_le hlen (by decide)
        · obtain ⟨k1, k2⟩ := put_list p1.go.env (rd_lt hr1) hv hF' (rs.append (.cons p1.rep .nil))
          exact h2 _ _ _ _ (Go.shared ⟨k1, p1.go.fr.trans k2, p1.go.sub⟩ rfl)
      · rw [if_neg hlen] at h1
        cases h1
    · cases h1
  · cases h1
theorem pe_ext_ (g : Gd cl N sc st X) {i : Nat} {a : E} {n x : Expr} {ap cp : Pos} (hn : chkNm N sc i n = true) (hl : (ap.endLine == cp.line) = true) (hx : ∀ xs env, starEach (x :: xs) env = (false, eval x env) :: starEach xs env)
    (ha : PE X x (tD X.K (ev cl a))) : PE X (.Call (.Attribute n "extend" ap) [x] [] cp) (tD X.K (ev cl (.ext i a))) := by
  refine pe_w (pe_bm PySem.F.plainAttrs_list PySem.F.slot_list_extend PySem.F.type_list_extend mt_extend (pe_nm g hn) (pa_cons ha pa_nil (hx _ _)) (attrNm hn _ _) (by rw [hx]; rfl) hl (hx _ _) rfl) fun σ H Q ⟨S, F, ρ, r, e, h1, h2⟩ => ?_
  simp only [ev] at h1
  split at h1
  · rename_i ds hr
    obtain ⟨p, e1, h1⟩ := bindS h1
    obtain ⟨l, xs, hv, hl, _, hF⟩ := own_list e hr
    refine ⟨_, hv, .inl ⟨rfl, _, SqL.of hl⟩, S, F, ρ, p, e, e1, fun v H1 F1 A1 p1 => ?_⟩
    split at h1
    · rename_i ws ys hp hr1
      obtain ⟨l', zs, hv', hl', rs, hF'⟩ := own_list p1.go.env hr1
      rw [hv] at hv'
      cases hv'
      by_cases hlen : ys.length + ws.length ≤ lim
      · rw [if_pos hlen] at h1
        cases h1
        obtain ⟨⟨fl, d⟩, ρ'⟩ := p
        cases hp
        have hres := p1.res
        cases hres with
        | slot hf q =>
          cases q with
          | lst q1 q2 =>
            rename_i b us
            refine ⟨l, b, zs, us, rfl, rfl, hl', q1, ?_, ?_⟩
            · rw [← rs.length, ← q2.length]; exact lim_line hlen
            · have q3 : Reps X.K (Wt S F1) H1 ws us := q2.step (fun _ _ e _ => e) fun a z => .inl (z.imp .inl id)
              obtain ⟨k1, k2⟩ := put_list p1.go.env (rd_lt hr1) hv hF' (rs.append q3)
              exact h2 _ _ _ _ (Go.shared ⟨k1, p1.go.fr.trans k2, p1.go.sub⟩ rfl)
      · rw [if_neg hlen] at h1
        cases h1
    · cases h1
  · cases h1
theorem pe_pop_ (g : Gd cl N sc st X) {i : Nat} {n : Expr} {ap cp : Pos} (hn : chkNm N sc i n = true) (hl : (ap.endLine == cp.line) = true) : PE X (.Call (.Attribute n "pop" ap) [] [] cp) (tD X.K (ev cl (.pop i))) := by
  refine pe_w (pe_bm0 PySem.F.plainAttrs_list PySem.F.slot_list_pop PySem.F.type_list_pop mt_pop (pe_nm g hn) (attrNm hn _ _) hl) fun σ H Q ⟨S, F, ρ, r, e, h1, h2⟩ => ?_
  simp only [ev] at h1
  split at h1
  · rename_i ds hr
    split at h1
    · rename_i d hd
      cases h1
      obtain ⟨l, xs, hv, hl, rs, hF⟩ := own_list e hr
      obtain ⟨y, hy, ry⟩ := rs.get (i := ds.length - 1) (d := d) (by rw [← List.getLast?_eq_getElem?]; exact hd)
      rw [rs.length] at hy
      refine ⟨_, hv, .inl ⟨rfl, _, SqL.of hl⟩, l, xs, y, rfl, rfl, hl, hy, ?_⟩
      obtain ⟨k1, k2⟩ := put_list e (rd_lt hr) hv hF rs.dropLast
      have gg : Go X.K S F σ H F (ρ.set i (some (.own, .list ds.dropLast))) (upd H l (.lst xs.dropLast)) := ⟨k1, k2, fun _ => .inl rfl⟩
      exact h2 _ _ _ _ (gg.shared (gg.rep ry))
    · cases h1
  · cases h1
end
end Mini

end
section
set_option Elab.async false
set_option linter.all false
set_option maxRecDepth 100000
set_option maxHeartbeats 4000000
/-! Mini, part 12: calls of the program's own defs. -/
namespace Mini
open PySem PySem.Spec PyProof.Rows L2
section
variable (K : PySem.W.Frag) (W : Addr → Prop) (H : Hp) (σ : L2.St)
def ArgV : List (Dt ⊕ Nat) → List V → Prop
  | [], vs => vs = []
  | .inl d :: r, vs => ∃ v q, vs = v :: q ∧ Rep K W H d v ∧ ArgV r q
  | .inr i :: r, vs => ∃ v q, vs = v :: q ∧ σ[i]? = some (some v) ∧ ArgV r q
end
def tA (K : PySem.W.Frag) (f : En → Option ((List (Dt ⊕ Nat) × List Nat) × En)) : TA := fun σ H Q => ∃ S F ρ r, EnvOk K S F ρ σ H ∧ f ρ = some r ∧ ∀ vs H' F', Go K S F σ H F' r.2 H' → ArgV K (Wt S F') H' σ r.1.1 vs → Q vs H'
section
variable {K : PySem.W.Frag} {W W' : Addr → Prop} {H H' : Hp} {σ : L2.St}
theorem ArgV.step (h : ∀ b o, H b = some o → ¬ W b → H' b = some o) (h2 : ∀ a, W' a → W a ∨ H a = none) : ∀ {D : List (Dt ⊕ Nat)} {vs : List V}, ArgV K W H σ D vs → ArgV K W' H' σ D vs
  | [], _, r => r
  | .inl d :: D, _, ⟨v, q, e, r, rs⟩ => ⟨v, q, e, r.step h h2, ArgV.step h h2 rs⟩
  | .inr i :: D, _, ⟨v, q, e, r, rs⟩ => ⟨v, q, e, r, ArgV.step h h2 rs⟩
theorem ArgV.length : ∀ {D : List (Dt ⊕ Nat)} {vs : List V}, ArgV K W H σ D vs → D.length = vs.length
  | [], _, r => by rw [show _ = _ from r]; rfl
  | .inl d :: D, _, ⟨v, q, e, r, rs⟩ => by subst e; simp [ArgV.length rs]
  | .inr i :: D, _, ⟨v, q, e, r, rs⟩ => by subst e; simp [ArgV.length rs]
theorem ArgV.l : ∀ {D : List (Dt ⊕ Nat)} {vs : List V} {j : Nat} {d : Dt}, ArgV K W H σ D vs → D[j]? = some (.inl d) → ∃ v, vs[j]? = some v ∧ Rep K W H d v
  | [], _, _, _, _, h => by simp at h
  | .inl d :: D, _, 0, _, ⟨v, q, e, r, rs⟩, h => by subst e; simp at h; subst h; exact ⟨v, rfl, r⟩
  | .inr i :: D, _, 0, _, _, h => by simp at h
  | .inl d :: D, _, j + 1, _, ⟨v, q, e, r, rs⟩, h => by subst e; obtain ⟨w, h1, h2⟩ := ArgV.l (j := j) rs (by simpa using h); exact ⟨w, by simpa using h1, h2⟩
  | .inr i :: D, _, j + 1, _, ⟨v, q, e, r, rs⟩, h => by subst e; obtain ⟨w, h1, h2⟩ := ArgV.l (j := j) rs (by simpa using h); exact ⟨w, by simpa using h1, h2⟩
theorem ArgV.r : ∀ {D : List (Dt ⊕ Nat)} {vs : List V} {j i : Nat}, ArgV K W H σ D vs → D[j]? = some (.inr i) → ∃ v, vs[j]? = some v ∧ σ[i]? = some (some v)
  | [], _, _, _, _, h => by simp at h
  | .inr i :: D, _, 0, _, ⟨v, q, e, r, rs⟩, h => by subst e; simp at h; subst h; exact ⟨v, rfl, r⟩
  | .inl d :: D, _, 0, _, _, h => by simp at h
  | .inl d :: D, _, j + 1, _, ⟨v, q, e, r, rs⟩, h => by subst e; obtain ⟨w, h1, h2⟩ := ArgV.r (j := j) rs (by simpa using h); exact ⟨w, by simpa using h1, h2⟩
  | .inr i :: D, _, j + 1, _, ⟨v, q, e, r, rs⟩, h => by subst e; obtain ⟨w, h1, h2⟩ := ArgV.r (j := j) rs (by simpa using h); exact ⟨w, by simpa using h1, h2⟩
/-- the lent slots -/
def lent (D : List (Dt ⊕ Nat)) : List Nat := D.filterMap fun y => match y with | .inr i => some i | .inl _ => none
theorem lent_inj : ∀ {D : List (Dt ⊕ Nat)} {j k i : Nat}, (lent D).Nodup → D[j]? = some (.inr i) → D[k]? = some (.inr i) → j = k
  | [], _, _, _, _, h, _ => by simp at h
  | .inl d :: D, 0, _, _, _, h, _ => by simp at h
  | .inl d :: D, _ + 1, 0, _, _, _, h => by simp at h
  | .inl d :: D, j + 1, k + 1, _, n, h1, h2 => by rw [lent_inj (D := D) (j := j) (k := k) n (by simpa using h1) (by simpa using h2)]
  | .inr a :: D, 0, 0, _, _, _, _ => rfl
  | .inr a :: D, 0, k + 1, i, n, h1, h2 => by
    simp at h1
    subst h1
    have n' : (a :: lent D).Nodup := n
    exact absurd (List.mem_filterMap.mpr ⟨Sum.inr a, List.mem_of_getElem? (show D[k]? = some (Sum.inr a) by simpa using h2), rfl⟩ : a ∈ lent D) (List.nodup_cons.mp n').1
  | .inr a :: D, j + 1, 0, i, n, h1, h2 => by
    simp at h2
    subst h2
    have n' : (a :: lent D).Nodup := n
    exact absurd (List.mem_filterMap.mpr ⟨Sum.inr a, List.mem_of_getElem? (show D[j]? = some (Sum.inr a) by simpa using h1), rfl⟩ : a ∈ lent D) (List.nodup_cons.mp n').1
  | .inr a :: D, j + 1, k + 1, _, n, h1, h2 => by
    have n' : (a :: lent D).Nodup := n
    rw [lent_inj (D := D) (j := j) (k := k) (List.nodup_cons.mp n').2 (by simpa using h1) (by simpa using h2)]
theorem mem_lent {D : List (Dt ⊕ Nat)} {i : Nat} : i ∈ lent D ↔ ∃ j : Nat, D[j]? = some (Sum.inr i) := by
  unfold lent
  rw [List.mem_filterMap]
  constructor
  · rintro ⟨y, hy, e⟩
    cases y with
    | inl d => cases e
    | inr k =>
      cases e
      obtain ⟨j, hj⟩ := List.getElem?_of_mem hy
      exact ⟨j, hj⟩
  · rintro ⟨j, hj⟩
    exact ⟨.inr i, List.mem_of_getElem? hj, rfl⟩
/-- the slots behind the call -/
theorem putIo_ok {ρ : En} : ∀ {D : List (Dt ⊕ Nat)} {os : List Dt} {ρ' : En}, (lent D).Nodup → putIo ρ D os = some ρ' → D.length = os.length ∧ ρ'.length = ρ.length ∧ (∀ i, i ∉ lent D → rd ρ' i = rd ρ i) ∧
    ∀ (j i : Nat), D[j]? = some (Sum.inr i) → ∃ fl d o, rd ρ i = some (fl, d) ∧ os[j]? = some o ∧ rd ρ' i = some (fl, o)
  | [], [], _, _, h => by cases h; exact ⟨rfl, rfl, fun _ _ => rfl, fun j i h => (by simp at h)⟩
  | [], _ :: _, _, _, h => by cases h
  | .inl _ :: D, o :: os, ρ', n, h => by
    obtain ⟨a, b, c, d⟩ := putIo_ok (D := D) n (show putIo ρ D os = some ρ' from h)
    refine ⟨by simp [a], b, c, fun j i hj => ?_⟩
    cases j with
    | zero => simp at hj
    | succ j =>
      obtain ⟨fl, d', o', h1, h2, h3⟩ := d j i (by simpa using hj)
      exact ⟨fl, d', o', h1, by simpa using h2, h3⟩
  | .inl _ :: D, [], _, _, h => by cases h
  | .inr i :: D, [], _, _, h => by cases h
  | .inr i :: D, o :: os, ρ', n, h => by
    have n' : (i :: lent D).Nodup := n
    obtain ⟨n1, n2⟩ := List.nodup_cons.mp n'
    simp only [putIo] at h
    split at h
    · rename_i fl d0 hr
      obtain ⟨ρ1, h1, rfl⟩ := mapS h
      obtain ⟨a, b, c, d⟩ := putIo_ok (D := D) n2 h1
      have hi : i < ρ1.length := by
        rw [b]
        unfold rd at hr
        by_cases hi : i < ρ.length
        · exact hi
        · rw [List.getElem?_eq_none (by omega)] at hr; cases hr
      have hne : ∀ k, k ≠ i → rd (ρ1.set i (some (fl, o))) k = rd ρ1 k := fun k hk => by
        unfold rd
        rw [List.getElem?_set_ne (Ne.symm hk)]
      refine ⟨by simp [a], by simp [b], fun k hk => ?_, fun j k hj => ?_⟩
      · have hk' : k ∉ i :: lent D := hk
        simp only [List.mem_cons, not_or] at hk'
        rw [hne k hk'.1]
        exact c k hk'.2
      · cases j with
        | zero =>
          simp at hj
          subst hj
          refine ⟨fl, d0, o, hr, rfl, ?_⟩
          unfold rd
          rw [List.getElem?_set_self hi]
          rfl
        | succ j =>
          obtain ⟨fl', d', o', h1, h2, h3⟩ := d j k (by simpa using hj)
          have hk : k ≠ i := fun e => by
            subst e
            exact n1 (mem_lent.mpr ⟨j, by simpa using hj⟩)
          exact ⟨fl', d', o', h1, by simpa using h2, by rw [hne k hk]; exact h3⟩
    · cases h
end
section
variable {X : Cx} {cl : CallS} {N : List Str} {sc st : Scope}
/-- the lent list that evA tells is the one of its arguments -/
theorem evA_lent : ∀ (es : Es) (ρ : En) (r : (List (Dt ⊕ Nat) × List Nat) × En), evA cl es ρ = some r → r.1.2 = lent r.1.1
  | .nil, ρ, r, h => by simp only [evA] at h; cases h; rfl
  | .star _ _, ρ, r, h => by simp only [evA] at h; cases h
  | .cons e es, ρ, r, h => by
    by_cases hio : ∃ i, e = .io i
    · obtain ⟨i, rfl⟩ := hio
      simp only [evA] at h
      obtain ⟨_, h⟩ := iteS h
      obtain ⟨q, h1, rfl⟩ := mapS h
      show i :: q.1.2 = i :: lent q.1.1
      rw [evA_lent es ρ q h1]
    · have h' : (keepS (ev cl e ρ)).bind (fun x => (evA cl es x.2).map fun q => ((.inl x.1 :: q.1.1, q.1.2), q.2)) = some r := by
        rw [← h]
        cases e <;> first | rfl | exact absurd ⟨_, rfl⟩ hio
      obtain ⟨x, h1, h2⟩ := bindS h'
      obtain ⟨q, h3, rfl⟩ := mapS h2
      show q.1.2 = lent q.1.1
      exact evA_lent es x.2 q h3
theorem paA_nil : PA X [] (tA X.K (evA cl .nil)) := pa_w pa_nil fun σ H Q ⟨S, F, ρ, r, e, h1, h2⟩ => by
  simp only [evA] at h1
  cases h1
  exact h2 [] H F (Go.refl e) rfl
theorem paA_cons {a : E} {r : Es} {x : Expr} {xs : List Expr} (hio : ∀ i, a ≠ .io i) (h1 : PE X x (tD X.K (ev cl a))) (h2 : PA X xs (tA X.K (evA cl r))) (hs : starEach (x :: xs) X.env = (false, eval x X.env) :: starEach xs X.env) : PA X (x :: xs) (tA X.K (evA cl (.cons a r))) :=
  pa_w (pa_cons (pe_k h1) h2 hs) fun σ H Q ⟨S, F, ρ, z, e, k1, k2⟩ => by
    have k1' : (keepS (ev cl a ρ)).bind (fun x => (evA cl r x.2).map fun q => ((.inl x.1 :: q.1.1, q.1.2), q.2)) = some z := by
      rw [← k1]
      cases a <;> first | rfl | exact absurd rfl (hio _)
    obtain ⟨p, e1, k1⟩ := bindS k1'
    obtain ⟨q, e2, rfl⟩ := mapS k1
    refine ⟨S, F, ρ, p, e, e1, fun v H1 F1 p1 => ⟨S, F1, p.2, q, p1.go.env, e2, fun vs H2 F2 g2 r2 => ?_⟩⟩
    exact k2 _ _ _ (p1.go.trans g2) ⟨v, vs, rfl, g2.rep p1.rep, r2⟩
theorem paA_io (g : Gd cl N sc st X) {i : Nat} {r : Es} {x : Expr} {xs : List Expr} (hn : chkNm N sc i x = true) (h2 : PA X xs (tA X.K (evA cl r))) : PA X (x :: xs) (tA X.K (evA cl (.cons (.io i) r))) := by
  have hs : starEach (x :: xs) X.env = (false, eval x X.env) :: starEach xs X.env := by
    unfold chkNm at hn
    split at hn
    · rfl
    · cases hn
  refine pa_w (pa_cons (pe_nm g hn) h2 hs) fun σ H Q ⟨S, F, ρ, z, e, k1, k2⟩ => ?_
  simp only [evA] at k1
  obtain ⟨hs, k1⟩ := iteS k1
  obtain ⟨q, e2, rfl⟩ := mapS k1
  obtain ⟨⟨fl, d⟩, hr⟩ := Option.isSome_iff_exists.mp hs
  obtain ⟨v, hv, _⟩ := e.slot i fl d hr
  exact ⟨v, hv, S, F, ρ, q, e, e2, fun vs H2 F2 g2 r2 => k2 _ _ _ g2 ⟨v, vs, rfl, hv, r2⟩⟩
theorem pe_call_ (g : Gd cl N sc st X) {f : Str} {as : Es} {n x : Expr} {xs : List Expr} {pos : Pos} (hn : chkGl sc f n = true) (ha : PA X (x :: xs) (tA X.K (evA cl as))) (he : starEach (x :: xs) X.env = (false, eval x X.env) :: starEach xs X.env) (hpl : (backTo pos (starEach xs X.env)).any (·.1) = false) :
    PE X (.Call n (x :: xs) [] pos) (tD X.K (ev cl (.call f as))) := by
  obtain ⟨p, rfl, h1, h2⟩ := chkGl_ok hn
  obtain ⟨d1, d2, d3⟩ := notDun_ok h2
  refine ⟨fun pins s σ H Q I h => ?_⟩
  obtain ⟨S, F, ρ, r, e, k1, k2⟩ := h
  simp only [ev] at k1
  obtain ⟨⟨⟨D, ls⟩, ρ1⟩, e1, k1⟩ := bindS k1
  obtain ⟨c1, k1⟩ := iteS k1
  obtain ⟨c1, c2⟩ := and2 c1
  obtain ⟨q, e2, k1⟩ := bindS k1
  obtain ⟨c3, k1⟩ := iteS k1
  obtain ⟨ρ2, e3, rfl⟩ := mapS k1
  have hls : ls = lent D := evA_lent as ρ _ e1
  subst hls
  have nd : (lent D).Nodup := of_decide_eq_true c2
  have hl : ∀ i ∈ lent D, ∃ fl d, rd ρ1 i = some (fl, d) ∧ (fl = .own ∨ fl = .src) := fun i hi => by
    have h := of_decide_eq_true (List.all_eq_true.mp c1 i hi)
    cases hr : rd ρ1 i with
    | none => simp [hr] at h
    | some sl =>
      refine ⟨sl.1, sl.2, rfl, ?_⟩
      simpa [hr] using h
  obtain ⟨k, a, fd, ps, f1, f2, f3, f4, f5⟩ := g.fns f _ q e2
  refine (pe_callG f5 f4 g.guards (g.gl h1) f1 f2 f3 ha d1 he hpl).run pins s σ H Q I ⟨S, F, ρ, _, e, e1, fun vs H1 F1 g1 av => ?_⟩
  have av0 : ArgV X.K (Wt S F1) H1 σ D vs := av
  have g1' : Go X.K S F σ H F1 ρ1 H1 := g1
  obtain ⟨o1, o2, o3, o4⟩ := putIo_ok nd e3
  -- what the callee must not touch, what it may change
  let Fc : Fs := fun j => match D[j]? with
    | some (Sum.inr i) => F1 i
    | _ => []
  let Sc : Addr → Prop := fun b => S b ∨ ∃ i, i ∉ lent D ∧ b ∈ F1 i
  have fcr : ∀ j i, D[j]? = some (Sum.inr i) → Fc j = F1 i := fun j i h => by simp only [Fc, h]
  have fcl : ∀ j, (∀ i, D[j]? ≠ some (Sum.inr i)) → Fc j = [] := fun j h => by
    cases hd : D[j]? with
    | none => simp only [Fc, hd]
    | some y =>
      cases y with
      | inl y => simp only [Fc, hd]
      | inr i => exact absurd hd (h i)
  have fci : ∀ j b, b ∈ Fc j → ∃ i, D[j]? = some (Sum.inr i) ∧ b ∈ F1 i := fun j b hb => by
    by_cases h : ∃ i, D[j]? = some (Sum.inr i)
    · obtain ⟨i, hi⟩ := h
      exact ⟨i, hi, by rw [fcr j i hi] at hb; exact hb⟩
    · rw [fcl j fun i hi => h ⟨i, hi⟩] at hb; cases hb
  have wt : ∀ b, Wt Sc Fc b → Wt S F1 b := fun b h => by
    rcases h with (h | ⟨i, _, h⟩) | ⟨j, h⟩
    · exact .inl h
    · exact .inr ⟨i, h⟩
    · obtain ⟨i, _, hb⟩ := fci j b h
      exact .inr ⟨i, hb⟩
  have wt' : ∀ b, Wt S F1 b → Wt Sc Fc b := fun b h => by
    rcases h with h | ⟨i, h⟩
    · exact .inl (.inl h)
    · by_cases hi : i ∈ lent D
      · obtain ⟨j, hj⟩ := mem_lent.mp hi
        exact .inr ⟨j, by rw [fcr j i hj]; exact h⟩
      · exact .inl (.inr ⟨i, hi, h⟩)
  have asl : ∀ j y, D[j]? = some y → (D.map (argSl ρ1))[j]? = some (argSl ρ1 y) := fun j y h => by rw [List.getElem?_map, h]; rfl
  have env : EnvOk X.K Sc Fc ((D.map (argSl ρ1)).map some) (vs.map some) H1 := by
    refine ⟨by simp [av0.length], fun j fl d h => ?_, fun j h => ?_, fun j k b hj hk => ?_, fun j b hb hS => ?_, fun b hb => g1'.env.wt b (wt b (.inl hb))⟩
    · have h' : ((D.map (argSl ρ1)).map some)[j]?.join = some (fl, d) := h
      rw [List.getElem?_map, List.getElem?_map] at h'
      cases hy : D[j]? with
      | none => rw [hy] at h'; cases h'
      | some y =>
        rw [hy] at h'
        have h'' : argSl ρ1 y = (fl, d) := Option.some.inj h'
        cases y with
        | inl d' =>
          cases h''
          obtain ⟨v, hv, rv⟩ := av0.l hy
          refine ⟨v, by rw [List.getElem?_map, hv]; rfl, ?_⟩
          rw [fcl j fun i hi => by rw [hy] at hi; cases hi]
          exact .sh (rv.step (fun _ _ e _ => e) fun b z => .inl (wt b z))
        | inr i =>
          obtain ⟨fl', d', hr, hf⟩ := hl i (mem_lent.mpr ⟨j, hy⟩)
          have h3 : (fl', d') = (fl, d) := by
            rw [← h'']
            simp [argSl, hr]
          cases h3
          obtain ⟨v, hv, hv'⟩ := av0.r hy
          obtain ⟨v2, hv2, rr⟩ := g1'.env.slot i _ _ hr
          rw [hv'] at hv2
          cases hv2
          refine ⟨v, by rw [List.getElem?_map, hv]; rfl, ?_⟩
          rw [fcr j i hy]
          exact rr.mono wt g1'.env.wt
    · have h' : ((D.map (argSl ρ1)).map some)[j]?.join = none := h
      rw [List.getElem?_map, List.getElem?_map] at h'
      refine fcl j fun i hi => ?_
      rw [hi] at h'
      cases h'
    · obtain ⟨i, hi, hb⟩ := fci j b hj
      obtain ⟨i', hi', hb'⟩ := fci k b hk
      have : i = i' := g1'.env.dis i i' b hb hb'
      subst this
      exact lent_inj nd hi hi'
    · obtain ⟨i, hi, hb'⟩ := fci j b hb
      rcases hS with h | ⟨i', n', h⟩
      · exact g1'.env.ext i b hb' h
      · have : i = i' := g1'.env.dis i i' b hb' h
        subst this
        exact n' (mem_lent.mpr ⟨j, hi⟩)
  show spD X.K (cl f) (vs ++ []) H1 Q E0
  rw [List.append_nil]
  refine ⟨Sc, Fc, _, q, env, e2, fun v H2 A po => ?_⟩
  have alive : ∀ b, H1 b = none → H b = none := fun b hb => by
    cases h : H b with
    | none => rfl
    | some o => exact absurd hb (g1'.fr.there b (by rw [h]; exact Option.some_ne_none _))
  have kp : ∀ b o, H1 b = some o → ¬ Wt S F1 b → H2 b = some o := fun b o hb hw => po.keep b o hb fun j hj => hw (wt b (.inr ⟨j, hj⟩))
  have grow : ∀ b, Wt (addS S A) F1 b → Wt S F1 b ∨ H1 b = none := fun b h => by
    rcases h with (h | h) | h
    · exact .inl (.inl h)
    · exact .inr (po.new b h)
    · exact .inl (.inr h)
  have wtA : ∀ b, Wt (addS S A) F1 b → Wt (addS Sc A) Fc b := fun b h => by
    rcases h with (h | h) | h
    · exact (wt' b (.inl h)).imp .inl id
    · exact .inl (.inr h)
    · exact (wt' b (.inr h)).imp .inl id
  have nA : ∀ b ∈ A, ¬ Wt S F1 b := fun b hb z => (g1'.env.wt b z).ne (po.new b hb)
  have same : ∀ i, i ∉ lent D → ∀ b ∈ F1 i, H2 b = H1 b := fun i hi b hb => by
    have m := g1'.env.wt b (.inr ⟨i, hb⟩)
    cases h : H1 b with
    | none => exact absurd h m.ne
    | some o =>
      refine po.keep b o h fun j hj => ?_
      obtain ⟨i', hi', hb'⟩ := fci j b hj
      have : i = i' := g1'.env.dis i i' b hb hb'
      subst this
      exact hi (mem_lent.mpr ⟨j, hi'⟩)
  have env2 : EnvOk X.K (addS S A) F1 ρ2 σ H2 := by
    refine ⟨by rw [o2]; exact g1'.env.len, fun i fl d h => ?_, fun i h => ?_, g1'.env.dis, fun i b hb hS => ?_, fun b hb => ?_⟩
    · by_cases hi : i ∈ lent D
      · obtain ⟨j, hj⟩ := mem_lent.mp hi
        obtain ⟨fl', d', o, h4, h5, h6⟩ := o4 j i hj
        rw [h] at h6
        cases h6
        obtain ⟨fl2, d2, h7, h8⟩ := hl i hi
        rw [h4] at h7
        cases h7
        obtain ⟨w, hw, hw'⟩ := av0.r hj
        have hout : rd (outEn (D.map (argSl ρ1)) q.2) j = some (fl, d) := by
          have ea : argSl ρ1 (Sum.inr i) = (fl, d') := by simp [argSl, h4]
          unfold rd outEn
          rw [List.getElem?_zipWith, asl j _ hj, h5, ea]
          rcases h8 with rfl | rfl <;> rfl
        obtain ⟨w2, hw2, rr⟩ := po.env.slot j _ _ hout
        rw [List.getElem?_map, hw] at hw2
        cases hw2
        refine ⟨w, hw', ?_⟩
        rw [fcr j i hj] at rr
        exact rr.mono wtA po.env.wt
      · rw [o3 i hi] at h
        obtain ⟨w, hw, rr⟩ := g1'.env.slot i _ _ h
        exact ⟨w, hw, rr.step kp grow (same i hi) g1'.env.wt⟩
    · by_cases hi : i ∈ lent D
      · obtain ⟨j, hj⟩ := mem_lent.mp hi
        obtain ⟨fl', d', o, h4, h5, h6⟩ := o4 j i hj
        rw [h] at h6
        cases h6
      · rw [o3 i hi] at h
        exact g1'.env.emp i h
    · rcases hS with hS | hS
      · exact g1'.env.ext i b hb hS
      · exact nA b hS (.inr ⟨i, hb⟩)
    · rcases hb with hb | hb
      · exact po.env.wf b (.inl (.inl hb))
      · exact po.env.wf b (.inr hb)
  refine k2 v H2 F1 A ⟨env2, .slot c3 (po.res.mono wtA po.env.wt), ⟨fun b o hb hn => ?_, g1'.fr.new, fun b hb => po.there b (g1'.fr.there b hb)⟩, g1'.sub, fun b hb => .inr (alive b (po.new b hb)), fun b hb z => nA b hb (.inl z)⟩
  have hb1 := g1'.fr.keep b o hb hn
  refine po.keep b o hb1 fun j hj => ?_
  obtain ⟨i, _, hb'⟩ := fci j b hj
  rcases g1'.fr.new i b hb' with ⟨j', z⟩ | z
  · exact hn j' z
  · rw [z] at hb; cases hb
end
end Mini

end
section
set_option Elab.async false
set_option linter.all false
set_option maxRecDepth 100000
set_option maxHeartbeats 4000000
/-! Mini, part 13: what loops go over. -/
namespace Mini
open PySem PySem.Spec PyProof.Rows L2
/-- J walks over the data, from the heap H0 on, while what lies outside W0 stays -/
structure WK (K : PySem.W.Frag) (W0 : Addr → Prop) (H0 : Hp) (J : L2.It) (ds : List Dt) : Prop where
  goes : ∀ i H, i < ds.length → (∀ b o, H0 b = some o → ¬ W0 b → H b = some o) → J.go i H
  stops : ∀ H, (∀ b o, H0 b = some o → ¬ W0 b → H b = some o) → J.stop ds.length H
  yields : ∀ i H x H', i < ds.length → (∀ b o, H0 b = some o → ¬ W0 b → H b = some o) → J.yld i H x H' →
    ∃ d, ds[i]? = some d ∧ Same H H' ∧ ∀ W', (∀ a, W' a → W0 a ∨ H0 a = none) → (∀ a, W' a → H a ≠ none) → Rep K W' H' d x
def tI (K : PySem.W.Frag) (f : En → Option (List Dt × En)) : TI := fun σ H R => ∃ S F ρ r, EnvOk K S F ρ σ H ∧ f ρ = some r ∧ ∀ J H' F', Go K S F σ H F' r.2 H' → WK K (Wt S F') H' J r.1 → R J H'
theorem upTo_get {lo c : Int} {n i : Nat} (h : i < n) : (upTo lo c n)[i]? = some (.int (lo + (i : Nat) * c)) := by
  unfold upTo
  rw [List.getElem?_map, List.getElem?_range h]
  rfl
theorem upTo_len {lo c : Int} {n : Nat} : (upTo lo c n).length = n := by unfold upTo; simp
section
variable {K : PySem.W.Frag} {W0 : Addr → Prop} {H0 : Hp} {ds es : List Dt} {xs ys : List V} {a b : Addr}
/-- a list that stays -/
def StL (K : PySem.W.Frag) (W0 : Addr → Prop) (H0 : Hp) (a : Addr) (xs : List V) : Prop := H0 a = some (.lst xs) ∧ ¬ W0 a
def StT (K : PySem.W.Frag) (W0 : Addr → Prop) (H0 : Hp) (a : Addr) (xs : List V) : Prop := (H0 a = some (.tup xs) ∧ ¬ W0 a) ∨ TpK K a xs
theorem StL.sq (h : StL K W0 H0 a xs) {H : Hp} (k : ∀ b o, H0 b = some o → ¬ W0 b → H b = some o) : SqL K H a xs := SqL.of (k _ _ h.1 h.2)
theorem tpk_sq (h : TpK K a xs) {H : Hp} : SqT K H a xs := by
  obtain ⟨o, its, n, h1, h2, h3, h4, h5⟩ := h
  exact .inr ⟨o, its, n, h1, h2, h3, h4, h5⟩
theorem StT.sq (h : StT K W0 H0 a xs) {H : Hp} (k : ∀ b o, H0 b = some o → ¬ W0 b → H b = some o) : SqT K H a xs := by
  rcases h with ⟨h, hw⟩ | h
  · exact SqT.of (k _ _ h hw)
  · exact tpk_sq h
theorem Reps.getR (r : Reps K W0 H0 ds xs) {i : Nat} {x : V} (h : xs[i]? = some x) : ∃ d, ds[i]? = some d ∧ Rep K W0 H0 d x := by
  have hi : i < ds.length := by
    rw [r.length]
    exact (List.getElem?_eq_some_iff.mp h).1
  obtain ⟨y, hy, q⟩ := r.get (List.getElem?_eq_getElem hi)
  rw [h] at hy
  cases hy
  exact ⟨_, List.getElem?_eq_getElem hi, q⟩
theorem same_refl {H : Hp} : Same H H := fun _ _ e => e
theorem wk_list (h : StL K W0 H0 a xs) (r : Reps K W0 H0 ds xs) : WK K W0 H0 (Itl K a) ds where
  goes := fun i H hi k => ⟨xs, xs[i]'(by rw [← r.length]; exact hi), h.sq k, by simp⟩
  stops := fun H k => ⟨xs, h.sq k, by rw [r.length]; exact Nat.le_refl _⟩
  yields := fun i H x H' hi k y => by
    obtain ⟨rfl, y⟩ := y
    obtain ⟨d, hd, q⟩ := r.getR (y xs (h.sq k))
    exact ⟨d, hd, same_refl, fun W' w1 _ => q.step k w1⟩
theorem wk_tup (h : StT K W0 H0 a xs) (r : Reps K W0 H0 ds xs) : WK K W0 H0 (Itt K a) ds where
  goes := fun i H hi k => ⟨xs, xs[i]'(by rw [← r.length]; exact hi), h.sq k, by simp⟩
  stops := fun H k => ⟨xs, h.sq k, by rw [r.length]; exact Nat.le_refl _⟩
  yields := fun i H x H' hi k y => by
    obtain ⟨rfl, y⟩ := y
    obtain ⟨d, hd, q⟩ := r.getR (y xs (h.sq k))
    exact ⟨d, hd, same_refl, fun W' w1 _ => q.step k w1⟩
theorem wk_range {lo : Int} {n : Nat} : WK K W0 H0 (Itr lo n) (upTo lo 1 n) where
  goes := fun i H hi k => by rw [upTo_len] at hi; exact hi
  stops := fun H k => by rw [upTo_len]; exact Nat.le_refl _
  yields := fun i H x H' hi k y => by
    obtain ⟨rfl, rfl⟩ := y
    rw [upTo_len] at hi
    refine ⟨_, upTo_get hi, same_refl, fun W' w1 _ => ?_⟩
    rw [Int.mul_one]
    rfl
theorem wk_rangeC {lo c : Int} {n : Nat} : WK K W0 H0 (Itc lo c n) (upTo lo c n) where
  goes := fun i H hi k => by rw [upTo_len] at hi; exact hi
  stops := fun H k => by rw [upTo_len]; exact Nat.le_refl _
  yields := fun i H x H' hi k y => by
    obtain ⟨rfl, rfl⟩ := y
    rw [upTo_len] at hi
    exact ⟨_, upTo_get hi, same_refl, fun W' w1 _ => rfl⟩
/-- a new pair at T -/
theorem pair_new {W' : Addr → Prop} {H : Hp} {T : Addr} {d e : Dt} {x y : V} (hT : H T = none) (w : ∀ a, W' a → H a ≠ none) (hx : Rep K W' H d x) (hy : Rep K W' H e y) : Rep K W' (upd H T (.tup [x, y])) (.tuple [d, e]) (.ref T) := by
  have st : ∀ b o, H b = some o → ¬ W' b → upd H T (.tup [x, y]) b = some o := fun b o z _ => (same_upd hT) b o z
  exact ⟨T, [x, y], rfl, .inl ⟨upd_same, fun z => w T z hT⟩, .cons (hx.step st fun a z => .inl z) (.cons (hy.step st fun a z => .inl z) .nil)⟩
theorem enumD_get {i : Nat} {d : Dt} (h : ds[i]? = some d) : (enumD ds)[i]? = some (.tuple [.int (i : Nat), d]) := by
  unfold enumD
  rw [List.getElem?_map, List.getElem?_zipIdx, h]
  simp
theorem enumD_len : (enumD ds).length = ds.length := by unfold enumD; simp
theorem wk_enumL (h : StL K W0 H0 a xs) (r : Reps K W0 H0 ds xs) : WK K W0 H0 (Ite K a) (enumD ds) where
  goes := fun i H hi k => ⟨xs, xs[i]'(by rw [← r.length]; rw [enumD_len] at hi; exact hi), h.sq k, by simp⟩
  stops := fun H k => ⟨xs, h.sq k, by rw [enumD_len, r.length]; exact Nat.le_refl _⟩
  yields := fun i H v H' hi k y => by
    obtain ⟨T, x, rfl, hT, rfl, y⟩ := y
    obtain ⟨d, hd, q⟩ := r.getR (y xs (h.sq k))
    exact ⟨_, enumD_get hd, same_upd hT, fun W' w1 w2 => pair_new hT w2 rfl (q.step k w1)⟩
/-- the tuple at a, its items counted -/
def IteT (K : PySem.W.Frag) (a : Addr) : L2.It :=
  ⟨fun i H => ∃ (xs : List V) (x : V), SqT K H a xs ∧ xs[i]? = some x, fun i H v H' => ∃ T x, v = .ref T ∧ H T = none ∧ H' = upd H T (.tup [.int (i : Nat), x]) ∧ ∀ xs, SqT K H a xs → xs[i]? = some x,
   fun i H => ∃ xs : List V, SqT K H a xs ∧ i = xs.length⟩
theorem wk_enumT (h : StT K W0 H0 a xs) (r : Reps K W0 H0 ds xs) : WK K W0 H0 (IteT K a) (enumD ds) where
  goes := fun i H hi k => ⟨xs, xs[i]'(by rw [← r.length]; rw [enumD_len] at hi; exact hi), h.sq k, by simp⟩
  stops := fun H k => ⟨xs, h.sq k, by rw [enumD_len, r.length]⟩
  yields := fun i H v H' hi k y => by
    obtain ⟨T, x, rfl, hT, rfl, y⟩ := y
    obtain ⟨d, hd, q⟩ := r.getR (y xs (h.sq k))
    exact ⟨_, enumD_get hd, same_upd hT, fun W' w1 w2 => pair_new hT w2 rfl (q.step k w1)⟩
theorem zipD_get {i : Nat} {d e : Dt} (h : ds[i]? = some d) (h2 : es[i]? = some e) : (zipD ds es)[i]? = some (.tuple [d, e]) := by
  unfold zipD
  rw [List.getElem?_map, show (ds.zip es)[i]? = some (d, e) from List.getElem?_zip_eq_some.mpr ⟨h, h2⟩]
  rfl
theorem zipD_len : (zipD ds es).length = min ds.length es.length := by unfold zipD; simp
theorem wk_zipL (h : StL K W0 H0 a xs) (h2 : StL K W0 H0 b ys) (r : Reps K W0 H0 ds xs) (r2 : Reps K W0 H0 es ys) : WK K W0 H0 (Itz K a b) (zipD ds es) where
  goes := fun i H hi k => by
    rw [zipD_len, r.length, r2.length] at hi
    exact ⟨xs, ys, xs[i]'(by omega), ys[i]'(by omega), h.sq k, h2.sq k, by simp, by simp⟩
  stops := fun H k => ⟨xs, ys, h.sq k, h2.sq k, by rw [zipD_len, r.length, r2.length]; omega⟩
  yields := fun i H v H' hi k y => by
    obtain ⟨T, x, z, rfl, hT, rfl, y1, y2⟩ := y
    obtain ⟨d, hd, q⟩ := r.getR (y1 xs (h.sq k))
    obtain ⟨e, he, q2⟩ := r2.getR (y2 ys (h2.sq k))
    exact ⟨_, zipD_get hd he, same_upd hT, fun W' w1 w2 => pair_new hT w2 (q.step k w1) (q2.step k w1)⟩
theorem wk_zipT (h : StT K W0 H0 a xs) (h2 : StT K W0 H0 b ys) (r : Reps K W0 H0 ds xs) (r2 : Reps K W0 H0 es ys) : WK K W0 H0 (RZ.ItzT K a b) (zipD ds es) where
  goes := fun i H hi k => by
    rw [zipD_len, r.length, r2.length] at hi
    exact ⟨xs, ys, xs[i]'(by omega), ys[i]'(by omega), h.sq k, h2.sq k, by simp, by simp⟩
  stops := fun H k => ⟨xs, ys, h.sq k, h2.sq k, by rw [zipD_len, r.length, r2.length]; omega⟩
  yields := fun i H v H' hi k y => by
    obtain ⟨T, x, z, rfl, hT, rfl, y1, y2⟩ := y
    obtain ⟨d, hd, q⟩ := r.getR (y1 xs (h.sq k))
    obtain ⟨e, he, q2⟩ := r2.getR (y2 ys (h2.sq k))
    exact ⟨_, zipD_get hd he, same_upd hT, fun W' w1 w2 => pair_new hT w2 (q.step k w1) (q2.step k w1)⟩
end

/-! ### enumerate over a tuple -/
set_option maxHeartbeats 1000000 in
theorem meets_enumT (l : Addr) (items : Array Value) :
    Meets (Builtin.«enumerate.__new__» ⟨[.type "enumerate", .ref l], []⟩) (fun _ R s => s.heap.IsTuple l items ∧ R (.ok (.ret (.ref (s.heap.push { cls := .type "tuple_iterator", data := .fields #[.ref l, .int 0 0] }).objs.size)))
      { s with heap := (s.heap.push { cls := .type "tuple_iterator", data := .fields #[.ref l, .int 0 0] }).push { cls := .type "enumerate", data := .fields #[.none, .bool false, .ref s.heap.objs.size, rawInt 0, .none, .none] } }) :=
  .of_wp fun prog w A R s h => by
    obtain ⟨hp, g, d, tk, os⟩ := s
    obtain ⟨h1, h⟩ := h
    have subE := sub_enumerate
    have q1 : ∀ {A' : Around} {E : Value → Shared → Prop} {Q : Value → Shared → Prop}, Q (.ref hp.objs.size) ⟨hp.push { cls := .type "tuple_iterator", data := .fields #[.ref l, .int 0 0] }, g, d, tk, os⟩ → wpAny (model prog w) A' (pyIter (.ref l)) Q E ⟨hp, g, d, tk, os⟩ :=
      fun {A' E Q} q => wpAny_pyIter_tuple (s := ⟨hp, g, d, tk, os⟩) h1 q
    wp_walk using q1
    refine wpAny_stack_any fun st => wpAny_pure ?_
    split
    · rename_i c _ _ _ _ _
      cases (c == Value.type "enumerate") <;> (wp_walk using q1; exact ⟨_, rfl, h⟩)
    · wp_walk using q1
      exact ⟨_, rfl, h⟩
section
variable {prog : Program} {w : World} {A : Around} {E : Value → Shared → Prop} {s : Shared}
theorem call_enumT {l : Addr} {items : Array Value} {Q : Value → Shared → Prop} (hL : s.heap.IsTuple l items)
    (h : ∀ h', IsEnum h' (s.heap.objs.size + 1) s.heap.objs.size 0 .none → h'.IsTupleIter s.heap.objs.size l 0 → (∀ b o, s.heap.get? b = some o → h'.get? b = some o) → Q (.ref (s.heap.objs.size + 1)) { s with heap := h' }) :
    wpAny (model prog w) A (call (.type "enumerate") [.ref l]) Q E s := by
  refine callType_new F.called_enumerate (by decide) (F.typeCall_enumerate_1 _) (F.newCall_enumerate_1 _) (fun obj => F.args_object_init_2 obj _) F.entry_enumerate_new (meets_enumT l items) ⟨hL, ?_⟩
  generalize hit : ({ cls := .type "tuple_iterator", data := .fields #[.ref l, .int 0 0] } : Obj) = oit
  have hz : (s.heap.push oit).objs.size = s.heap.objs.size + 1 := Heap.size_push ..
  show _ ∧ _
  rw [hz]
  have he : IsEnum ((s.heap.push oit).push { cls := .type "enumerate", data := .fields #[.none, .bool false, .ref s.heap.objs.size, rawInt 0, .none, .none] }) (s.heap.objs.size + 1) s.heap.objs.size 0 .none := by
    have z := Heap.get?_push_size (s.heap.push oit) (o := { cls := .type "enumerate", data := .fields #[.none, .bool false, .ref s.heap.objs.size, rawInt 0, .none, .none] }) rfl
    rwa [hz] at z
  refine ⟨⟨_, he, rfl⟩, h _ he ⟨oit, Heap.get?_push_of_some _ (Heap.get?_push_size _ (by rw [← hit]; rfl)), by rw [← hit], by rw [← hit]; rfl⟩ fun b o x => Heap.get?_push_of_some _ (Heap.get?_push_of_some _ x)⟩
end
theorem ne_tup_it {h : Heap} {a it : Addr} {items : Array Value} {i : Nat} {b : Addr} (p : h.IsTuple a items) (q : h.IsTupleIter it b i) : a ≠ it := by
  intro e
  subst e
  obtain ⟨o, ho, hc, _⟩ := p
  obtain ⟨o', ho', hc', _⟩ := q
  rw [ho] at ho'
  cases ho'
  rw [hc] at hc'
  exact absurd hc' (by decide)
theorem ne_tup_en {h : Heap} {a e it : Addr} {items : Array Value} {i : Int} {old : Value} (p : h.IsTuple a items) (q : IsEnum h e it i old) : e ≠ a := by
  intro z
  subst z
  obtain ⟨o, ho, hc, _⟩ := p
  have q' := q
  unfold IsEnum at q'
  rw [ho] at q'
  cases q'
  have hc' : Value.type "enumerate" = Value.type "tuple" := hc
  exact absurd hc' (by decide)
theorem turn_enT {P : Program} {w : World} {K : PySem.W.Frag} {elts : List Expr} {kk : Nat} {tpos : Pos} (a e it : Addr) :
    Turn P w K (.Tuple elts kk tpos) (IteT K a) [e, it] e (fun i h => (∃ old, IsEnum h e it ((i : Nat) : Int) old) ∧ h.IsTupleIter it a i ∧ e ≠ it) where
  mem := by simp
  obj := fun i h st b hb => by
    obtain ⟨⟨old, he⟩, ⟨o, ho, hc, hd⟩, _⟩ := st
    have e' : b = e ∨ b = it := by simpa using hb
    rcases e' with z | z
    · subst z; exact ⟨_, he, fun v q => (by cases q)⟩
    · exact ⟨o, by rw [z]; exact ho, fun v q => by rw [hd] at q; cases q⟩
  keep := fun i h h' st k => ⟨st.1.imp fun old he => k e (by simp) _ he, st.2.1.at fun o q => k it (by simp) o q, st.2.2⟩
  item := by
    intro X hP hw hK hc i pins s σ H E I hf st hg
    subst hP hw hK
    obtain ⟨⟨old, he⟩, hit, hne⟩ := st
    obtain ⟨xs, x, hq, hx⟩ := hg
    obtain ⟨its, rv, p, hz⟩ := I.tuple hq
    obtain ⟨u, hu, ru⟩ := rv.get hx
    have p' : s.heap.IsTuple a its.toArray := p
    have hel : e < s.heap.objs.size := Heap.lt_size he
    have hil : it < s.heap.objs.size := by obtain ⟨_, q, _⟩ := hit; exact Heap.lt_size q
    have hlt : i < its.toArray.size := by rw [List.size_toArray]; exact (List.getElem?_eq_some_iff.mp hu).1
    have D := Draws.tuple (prog := X.prog) (w := X.w) (A := X.A.in1) (I.ok.hd hc) it a (ne_tup_it p' hit) its.toArray
    have hef : e ∉ [it, a] := by simp [hne, ne_tup_en p' he]
    refine wpAny_pyNext_enum_itemD D he ⟨hit, p'⟩ hlt hne hef fun u' h' tk hP ho hst hT hsz hk => ?_
    have eu : u' = u := by
      have z : its.toArray[i]? = some u' := hP
      have z2 : its.toArray[i]? = some u := by simpa using hu
      rw [z2] at z
      exact (Option.some.inj z).symm
    subst eu
    refine ⟨_, rfl, wpAny_letOwnedTupleGo_enum (s := { s with heap := h', toks := tk + 1 }) ho fun h'' he' sb => ?_⟩
    have hT2 : h''.get? s.heap.objs.size = some { cls := .type "tuple", data := .seq #[.int i tk, u'] } := (sb.2 _ (Nat.ne_of_gt hel)).trans hT
    have new : ObjOk X.prog X.w (upd H s.heap.objs.size (.tup [.int (i : Nat), x])) h'' s.heap.objs.size (.tup [.int (i : Nat), x]) := ⟨by show 2 ≤ sizeLine; decide, [.int i tk, u'], .cons ⟨_, rfl⟩ (.cons ru .nil), ⟨_, hT2, rfl, _, rfl⟩⟩
    have I1 : Inv X pins σ (upd H s.heap.objs.size (.tup [.int (i : Nat), x])) { s with heap := h'', toks := tk + 1 } :=
      I.turnedNew (ch := [e, it]) (fun b ob hb q => by
        have nb : b ≠ e ∧ b ≠ it := by simpa using hb
        exact (sb.2 b nb.1).trans (hk b ob nb.1 nb.2 q)) hf (Nat.le_refl _) new
    refine ⟨.ref s.heap.objs.size, _, I1, rfl, ⟨_, x, rfl, I.hok.fresh (Nat.le_refl _), rfl, fun ys hy => by rw [I.tuple_inj hy hq]; exact hx⟩, ⟨⟨u', ?_⟩, hst.1.at fun o q => (sb.2 it (Ne.symm hne)).trans q, hne⟩, fun b hb => ?_⟩
    · have e1 : ((i + 1 : Nat) : Int) = (i : Int) + 1 := by omega
      rw [e1]
      exact he'
    · have hb' : b < s.heap.objs.size := by
        have e' : b = e ∨ b = it := by simpa using hb
        rcases e' with z | z <;> rw [z] <;> assumption
      rw [upd_ne (Nat.ne_of_lt hb')]
      exact (hf b hb).1
  done := by
    intro X hP hw hK hc i pins s σ H E I hf st hg
    subst hP hw hK
    obtain ⟨⟨old, he⟩, hit, hne⟩ := st
    obtain ⟨xs, hq, hx⟩ := hg
    obtain ⟨its, rv, p, hz⟩ := I.tuple hq
    have p' : s.heap.IsTuple a its.toArray := p
    obtain ⟨f0, f1, f2, f3, f4, f5⟩ := hf it (by simp)
    have D := Draws.tuple (prog := X.prog) (w := X.w) (A := X.A.in1) (I.ok.hd hc) it a (ne_tup_it p' hit) its.toArray
    have hi : i = its.toArray.size := by rw [List.size_toArray, ← rv.length, hx]
    refine wpAny_pyNext_enum_endD D he (by rw [← hi]; exact ⟨hit, p'⟩) fun h' eb => ⟨rfl, I.turned (t' := s.toks) (fun b o hb q => eb b o hb q) f0 f1 f3 f4 f5⟩
  self := fun A i s Q E st h => by
    obtain ⟨⟨old, he⟩, _⟩ := st
    exact wpAny_pyIter_enum he h
def iEnT (K : PySem.W.Frag) (ta : TA) : TI := fun σ H R => ta σ H fun vs H1 => ∃ a xs, vs = [.ref a] ∧ SqT K H1 a xs ∧ R (IteT K a) H1
theorem pi_enT {X : Cx} {e : Expr} {ta : TA} {p pos tpos : Pos} {elts : List Expr} {kk : Nat} (hg : Gl X "enumerate") (hm : X.mg "enumerate" = none) (ha : PA X [e] ta) (hs : starEach [e] X.env = [(false, eval e X.env)]) :
    PI X (.Tuple elts kk tpos) (.Call (.Name "enumerate" p) [e] [] pos) (iEnT X.K ta) := by
  refine ⟨fun pins s σ H R I h => Call_ (ld_blt I hg hm boot_enumerate (PyProof.Rows.callWith_type1 (thn (ha.run pos pins s σ H _ I h) fun us s1 ⟨vs, H1, I1, r1, q1⟩ => ?_) hs rfl))⟩
  obtain ⟨a, xs, ex, hq, q⟩ := q1
  subst ex
  cases r1 with
  | cons r rr =>
    cases rr
    cases r
    obtain ⟨its, rv, p', hz⟩ := I1.tuple hq
    refine call_enumT (show s1.heap.IsTuple a its.toArray from p') fun h' he hit hk => wpAny_pyIter_enum he ?_
    have I2 : Inv X pins σ H1 { s1 with heap := h' } := I1.kept (t' := s1.toks) hk
    refine ⟨s1.heap.objs.size + 1, [s1.heap.objs.size + 1, s1.heap.objs.size], _, _, H1, rfl, I2, turn_enT a (s1.heap.objs.size + 1) s1.heap.objs.size, ⟨⟨.none, he⟩, hit, Nat.succ_ne_self _⟩, fun b hb => ?_, q⟩
    have hle : s1.heap.objs.size ≤ b := by
      have e' : b = s1.heap.objs.size + 1 ∨ b = s1.heap.objs.size := by simpa using hb
      rcases e' with z | z <;> (rw [z]; first | exact Nat.le_succ _ | exact Nat.le_refl _)
    exact I1.fpOk hle (I1.hok.fresh hle)
end Mini

end
section
set_option Elab.async false
set_option linter.all false
set_option maxRecDepth 100000
set_option maxHeartbeats 4000000
/-! Mini, part 14: slots forgotten and given back; targets; what loops go over, as rules. -/
namespace Mini
open PySem PySem.Spec PyProof.Rows L2
section
variable {K : PySem.W.Frag} {S S' : Addr → Prop} {F F' : Fs} {ρ ρ' ρ0 : En} {σ σ' : L2.St} {H H' : Hp}
theorem rd_set_ne {i j : Nat} {x : Option Sl} (h : j ≠ i) : rd (ρ.set i x) j = rd ρ j := by
  unfold rd
  rw [List.getElem?_set_ne (Ne.symm h)]
theorem rd_set_none {i : Nat} : rd (ρ.set i none) i = none := by
  unfold rd
  by_cases h : i < ρ.length
  · rw [List.getElem?_set_self h]; rfl
  · rw [List.getElem?_eq_none (by simp; omega)]; rfl
theorem EnvOk.wipe1 (e : EnvOk K S F ρ σ H) {i : Nat} (h : F i = []) : EnvOk K S F (ρ.set i none) (σ.set i none) H := by
  refine ⟨by simp [e.len], fun j fl d q => ?_, fun j q => ?_, e.dis, e.ext, e.wf⟩
  · by_cases hj : j = i
    · subst hj; rw [rd_set_none] at q; cases q
    · rw [rd_set_ne hj] at q
      rw [List.getElem?_set_ne (Ne.symm hj)]
      exact e.slot j fl d q
  · by_cases hj : j = i
    · subst hj; exact h
    · rw [rd_set_ne hj] at q
      exact e.emp j q
theorem EnvOk.wipe (e : EnvOk K S F ρ σ H) : ∀ is : List Nat, (∀ i ∈ is, F i = []) → EnvOk K S F (Mini.wipe ρ is) (L2.wipe σ is) H
  | [], _ => e
  | i :: is, h => (EnvOk.wipe e is fun j hj => h j (List.mem_cons_of_mem _ hj)).wipe1 (h i (List.mem_cons_self ..))
theorem back_len : ∀ is : List Nat, (back ρ ρ' is).length = ρ'.length
  | [] => rfl
  | i :: is => by show ((back ρ ρ' is).set i _).length = _; rw [List.length_set, back_len is]
theorem back_in (hl : ρ.length = ρ'.length) {j : Nat} : ∀ {is : List Nat}, j ∈ is → rd (back ρ ρ' is) j = rd ρ j
  | i :: is, h => by
    by_cases hj : j = i
    · subst hj
      show ((back ρ ρ' is).set j (rd ρ j))[j]?.join = _
      by_cases hlt : j < ρ'.length
      · rw [List.getElem?_set_self (by rw [back_len]; exact hlt)]
        rfl
      · unfold rd
        rw [List.getElem?_eq_none (by simp [back_len]; omega), List.getElem?_eq_none (by omega)]
    · have e : rd (back ρ ρ' (i :: is)) j = rd (back ρ ρ' is) j := rd_set_ne hj
      rw [e]
      exact back_in hl (by simpa [hj] using h)
theorem back_out {j : Nat} : ∀ {is : List Nat}, j ∉ is → rd (back ρ ρ' is) j = rd ρ' j
  | [], _ => rfl
  | i :: is, h => by
    simp only [List.mem_cons, not_or] at h
    have e : rd (back ρ ρ' (i :: is)) j = rd (back ρ ρ' is) j := rd_set_ne h.1
    rw [e]
    exact back_out h.2
theorem EnvOk.back {is : List Nat} (e : EnvOk K S F ρ' (L2.wipe σ is) H') (hl : ρ0.length = σ.length) (h0 : ∀ i ∈ is, F i = []) (h : ∀ i ∈ is, ∀ fl d, rd ρ0 i = some (fl, d) → fl = .sh ∧ ∃ v, σ[i]? = some (some v) ∧ Rep K (Wt S F) H' d v) :
    EnvOk K S F (Mini.back ρ0 ρ' is) σ H' := by
  have l1 : ρ'.length = σ.length := by rw [e.len, L2.wipe_length]
  refine ⟨by rw [back_len, l1], fun j fl d q => ?_, fun j q => ?_, e.dis, e.ext, e.wf⟩
  · by_cases hj : j ∈ is
    · rw [back_in (hl.trans l1.symm) hj] at q
      obtain ⟨rfl, v, hv, r⟩ := h j hj fl d q
      refine ⟨v, hv, ?_⟩
      rw [h0 j hj]
      exact .sh r
    · rw [back_out hj] at q
      obtain ⟨v, hv, r⟩ := e.slot j fl d q
      exact ⟨v, (L2.wipe_some hv).1, r⟩
  · by_cases hj : j ∈ is
    · exact h0 j hj
    · rw [back_out hj] at q
      exact e.emp j q
/-- another object that is only kept away from is changed -/
theorem EnvOk.putS {a : Addr} {o : HO} (e : EnvOk K S F ρ σ H) (ha : S a) (ho : mu (upd H a o) a) : EnvOk K S F ρ σ (upd H a o) := by
  refine ⟨e.len, fun i fl d q => ?_, e.emp, e.dis, e.ext, fun b z => ?_⟩
  · obtain ⟨v, hv, r⟩ := e.slot i fl d q
    refine ⟨v, hv, r.step (fun b u q n => ?_) (fun _ z => .inl z) (fun b hb => ?_) e.wt⟩
    · rw [upd_ne fun z => n (.inl (by rw [z]; exact ha))]; exact q
    · exact upd_ne fun z => e.ext i b hb (by rw [z]; exact ha)
  · by_cases hb : b = a
    · subst hb; exact ho
    · rcases e.wf b z with ⟨_, q⟩ | ⟨_, q⟩
      · exact .inl ⟨_, by rw [upd_ne hb]; exact q⟩
      · exact .inr ⟨_, by rw [upd_ne hb]; exact q⟩
theorem Fr.putNew {D : Addr} {o : HO} (f : Fr F H F' H') (h : H D = none) : Fr F H F' (upd H' D o) :=
  ⟨fun b u q n => by rw [upd_ne (ne_of_none q h)]; exact f.keep b u q n, f.new, fun b q z => by
    have hb : b ≠ D := fun e => q (by rw [e]; exact h)
    rw [upd_ne hb] at z
    exact f.there b q z⟩
/-- what a target's store leaves -/
structure PostG (K : PySem.W.Frag) (S : Addr → Prop) (F : Fs) (ρ' : En) (σ σ' : L2.St) (H : Hp) (F' : Fs) (A : List Addr) (is : List Nat) : Prop where
  env : EnvOk K S F' ρ' σ' H
  out : ∀ i, i ∉ is → F' i = F i ∧ σ'[i]? = σ[i]?
  mem : ∀ i a, a ∈ F' i → a ∈ A ∨ a ∈ F i
  len : σ'.length = σ.length
def tG (K : PySem.W.Frag) (p : Pat) : TG := fun v σ H Q => ∃ S F ρ fl d A ρ', EnvOk K (addS S A) F ρ σ H ∧ okFl fl = true ∧ SlotRep K (Wt (addS S A) F) H fl v d A ∧ (∀ a ∈ A, ¬ S a) ∧ bind p (fl, d) ρ = some ρ' ∧
  ∀ σ' F', PostG K S F ρ' σ σ' H F' A (slots p) → Q σ' H
def tGs (K : PySem.W.Frag) (ps : Pats) : TGs := fun vs σ H Q => ∃ S F ρ ds ρ', EnvOk K S F ρ σ H ∧ Reps K (Wt S F) H ds vs ∧ binds ps ds ρ = some ρ' ∧ ∀ σ' F', PostG K S F ρ' σ σ' H F' [] (slotss ps) → Q σ' H
theorem wipe_ext : ∀ {is : List Nat}, σ'.length = σ.length → (∀ i, i ∉ is → σ'[i]? = σ[i]?) → L2.wipe σ' is = L2.wipe σ is := by
  have key : ∀ (τ : L2.St) (is : List Nat) (j : Nat), (L2.wipe τ is)[j]? = if j ∈ is then (if j < τ.length then some none else none) else τ[j]? := by
    intro τ is
    induction is with
    | nil => intro j; simp [L2.wipe]
    | cons i is ih =>
      intro j
      show ((L2.wipe τ is).set i none)[j]? = _
      by_cases hj : j = i
      · subst hj
        simp only [List.mem_cons, true_or, if_true]
        by_cases hlt : j < τ.length
        · rw [List.getElem?_set_self (by rw [L2.wipe_length]; exact hlt), if_pos hlt]
        · rw [List.getElem?_eq_none (by simp [L2.wipe_length]; omega), if_neg hlt]
      · rw [List.getElem?_set_ne (Ne.symm hj), ih j]
        simp [hj]
  intro is hl h
  refine List.ext_getElem? fun j => ?_
  rw [key, key, hl]
  by_cases hj : j ∈ is
  · rw [if_pos hj, if_pos hj]
  · rw [if_neg hj, if_neg hj, h j hj]
end
section
variable {X : Cx} {cl : CallS} {N : List Str} {sc st : Scope}
theorem pg_w {e : Expr} {t t' : TG} (h : PG X e t) (w : ∀ v σ H Q, t' v σ H Q → t v σ H Q) : PG X e t' := ⟨fun pins s σ H v u Q I r q => h.run pins s σ H v u Q I r (w v σ H Q q)⟩
theorem pgs_w {es : List Expr} {t t' : TGs} (h : PGs X es t) (w : ∀ v σ H Q, t' v σ H Q → t v σ H Q) : PGs X es t' := ⟨fun pins s σ H v u Q I r q => h.run pins s σ H v u Q I r (w v σ H Q q)⟩
theorem PostG.refl {K : PySem.W.Frag} {S : Addr → Prop} {F : Fs} {ρ : En} {σ : L2.St} {H : Hp} (e : EnvOk K S F ρ σ H) : PostG K S F ρ σ σ H F [] [] :=
  ⟨e, fun _ _ => ⟨rfl, rfl⟩, fun _ _ h => .inr h, rfl⟩
theorem chkP_each {p : Pat} {e : Expr} (h : chkP N st p e = true) (es : List Expr) (env : Env) : assignEach (e :: es) env = (false, assign e env) :: assignEach es env := by
  cases e <;> first | rfl | (cases p <;> cases h)
theorem chkPs_each {ps : Pats} : ∀ {es : List Expr}, chkPs N st ps es = true → ∀ env, (assignEach es env).findIdx? (·.1) = none ∧ (assignEach es env).length = es.length := by
  induction ps using Pats.rec (motive_1 := fun _ => True) with
  | nm _ => trivial
  | tp _ _ => trivial
  | nil => intro es h env; cases es with
    | nil => exact ⟨rfl, rfl⟩
    | cons e es => cases h
  | cons p ps _ ih => intro es h env; cases es with
    | nil => cases h
    | cons e es =>
      obtain ⟨h1, h2⟩ := and2 (show (chkP N st p e && chkPs N st ps es) = true from h)
      obtain ⟨i1, i2⟩ := ih h2 env
      rw [chkP_each h1]
      refine ⟨?_, by simp [i2]⟩
      rw [List.findIdx?_cons]
      simp [i1]
theorem Gd.isSto (g : Gd cl N sc st X) {x : Str} (h : isSto st x = true) : L2.Loc sc x ∧ (X.fn x = true ∨ sc.names.lookup x = some .local) := by
  refine g.st x ?_
  unfold Mini.isSto at h
  split at h
  · exact .inl (by assumption)
  · exact .inr (by assumption)
  · cases h
theorem binds_len : ∀ (ps : Pats) {ds : List Dt} {ρ ρ' : En} {es : List Expr}, binds ps ds ρ = some ρ' → chkPs N st ps es = true → ds.length = es.length
  | .nil, [], _, _, [], _, _ => rfl
  | .nil, [], _, _, _ :: _, _, h => by cases h
  | .nil, _ :: _, _, _, _, h, _ => by cases h
  | .cons p ps, [], _, _, _, h, _ => by cases h
  | .cons p ps, _ :: _, _, _, [], _, h => by cases h
  | .cons p ps, d :: ds, ρ, ρ', e :: es, b, h => by
    obtain ⟨ρ1, b1, b2⟩ := bindS (show (bind p (.sh, d) ρ).bind (binds ps ds) = some ρ' from b)
    obtain ⟨_, h2⟩ := and2 (show (chkP N st p e && chkPs N st ps es) = true from h)
    simp [binds_len ps b2 h2]
mutual
theorem pg_ (g : Gd cl N sc st X) : ∀ (p : Pat) (e : Expr), chkP N st p e = true → PG X e (tG X.K p)
  | .nm i, e, h => by
    cases e with
    | Name x pos =>
      obtain ⟨h1, h2⟩ := and2 (show (decide (N[i]? = some x) && isSto st x) = true from h)
      have h1 := of_decide_eq_true h1
      obtain ⟨hl, hf⟩ := g.isSto h2
      refine pg_w (pg_name (by rw [g.eN]; exact g.nd) (by rw [g.eN]; exact h1) (by rw [g.es]; exact hl) (by rw [g.es]; exact hf)) fun v σ H Q ⟨S, F, ρ, fl, d, A, ρ', e, ok, r, ap, b, k⟩ => ?_
      simp only [bind] at b
      obtain ⟨c, b⟩ := iteS b
      cases b
      obtain ⟨_, hi⟩ := and2 c
      have hi := of_decide_eq_true hi
      refine k _ _ ⟨e.set r hi ap, fun j hj => ?_, fun j a ha => ?_, by simp⟩
      · have hj : j ≠ i := by simpa [slots] using hj
        exact ⟨setF_ne hj, List.getElem?_set_ne (Ne.symm hj)⟩
      · by_cases hj : j = i
        · subst hj; rw [setF_same] at ha; exact .inl ha
        · rw [setF_ne hj] at ha; exact .inr ha
    | _ => cases h
  | .tp ps, e, h => by
    cases e with
    | Tuple es k pos =>
      have h : chkPs N st ps es = true := h
      obtain ⟨f1, f2⟩ := chkPs_each h X.env
      refine pg_w (pg_tup (n := es.length) g.calm (pgs_ g ps es h) f2 f1) fun v σ H Q ⟨S, F, ρ, fl, d, A, ρ', e, ok, r, ap, b, k⟩ => ?_
      cases fl with
      | sh =>
        cases d with
        | tuple ds =>
          have b' : binds ps ds ρ = some ρ' := b
          cases r with
          | sh r =>
            obtain ⟨a, xs, rfl, hq, rr⟩ := r.tup
            rw [addS0] at e rr
            have hl : xs.length = es.length := by
              rw [← rr.length]
              exact binds_len ps b' h
            exact ⟨a, xs, rfl, hq, hl, S, F, ρ, ds, ρ', e, rr, b', fun σ' F' pg => k σ' F' pg⟩
        | _ => cases b
      | _ => cases d <;> cases b
    | _ => cases h
theorem pgs_ (g : Gd cl N sc st X) : ∀ (ps : Pats) (es : List Expr), chkPs N st ps es = true → PGs X es (tGs X.K ps)
  | .nil, [], _ => pgs_w pgs_nil fun vs σ H Q ⟨S, F, ρ, ds, ρ', e, r, b, k⟩ => by
    cases ds with
    | nil =>
      cases b
      exact ⟨r, k σ F (PostG.refl e)⟩
    | cons d ds => cases b
  | .nil, _ :: _, h => by cases h
  | .cons p ps, [], h => by cases h
  | .cons p ps, e :: es, h => by
    obtain ⟨h1, h2⟩ := and2 (show (chkP N st p e && chkPs N st ps es) = true from h)
    refine pgs_w (pgs_cons (pg_ g p e h1) (pgs_ g ps es h2) (by rw [chkP_each h1]; rfl)) fun vs σ H Q ⟨S, F, ρ, ds, ρ', e, r, b, k⟩ => ?_
    cases ds with
    | nil => cases b
    | cons d ds =>
      obtain ⟨x, xs, rfl, r1, r2⟩ := r
      obtain ⟨ρ1, b1, b2⟩ := bindS (show (bind p (.sh, d) ρ).bind (binds ps ds) = some ρ' from b)
      have h0 : EnvOk X.K (addS S []) F ρ σ H := by rw [addS0]; exact e
      refine ⟨x, xs, rfl, S, F, ρ, .sh, d, [], ρ1, h0, rfl, .sh (by rw [addS0]; exact r1), fun a ha => (by cases ha), b1, fun σ1 F1 p1 => ?_⟩
      have sub : ∀ a, Wt S F1 a → Wt S F a := fun a z => by
        rcases z with z | ⟨i, z⟩
        · exact .inl z
        · rcases p1.mem i a z with q | q
          · cases q
          · exact .inr ⟨i, q⟩
      refine ⟨S, F1, ρ1, ds, ρ', p1.env, r2.step (fun _ _ e _ => e) (fun a z => .inl (sub a z)), b2, fun σ2 F2 p2 => k σ2 F2 ⟨p2.env, fun i hi => ?_, fun i a ha => ?_, p2.len.trans p1.len⟩⟩
      · have hi' : i ∉ slots p ∧ i ∉ slotss ps := by simpa [slotss] using hi
        obtain ⟨a1, a2⟩ := p1.out i hi'.1
        obtain ⟨a3, a4⟩ := p2.out i hi'.2
        exact ⟨a3.trans a1, a4.trans a2⟩
      · rcases p2.mem i a ha with q | q
        · cases q
        · exact p1.mem i a q
end

end
end Mini

end
section
set_option Elab.async false
set_option linter.all false
set_option maxRecDepth 100000
set_option maxHeartbeats 4000000
/-! Mini, part 15: rules of what loops go over; comprehensions. -/
namespace Mini
open PySem PySem.Spec PyProof.Rows L2
section
variable {X : Cx} {cl : CallS} {N : List Str} {sc st : Scope} {tg x y z n : Expr} {pos : Pos}
abbrev NS (X : Cx) (x : Expr) : Prop := ∀ xs env, starEach (x :: xs) env = (false, eval x env) :: starEach xs env
theorem pi_e_ {a : E} (h : PE X x (tD X.K (ev cl a))) : PI X tg x (tI X.K (evI cl (.e a))) := by
  refine ⟨fun pins s σ H R I hw => ?_⟩
  obtain ⟨S, F, ρ, r, e, h1, h2⟩ := hw
  simp only [evI] at h1
  obtain ⟨⟨d, ρ1⟩, e1, h1⟩ := bindS h1
  obtain ⟨ds, e2, rfl⟩ := mapS h1
  cases d with
  | list es =>
    cases e2
    refine (pi_list (pe_k h)).run pins s σ H R I ⟨S, F, ρ, _, e, e1, fun v H1 F1 p1 => ?_⟩
    obtain ⟨a', xs, rfl, hl, rr⟩ := p1.rep
    exact ⟨a', rfl, ⟨xs, SqL.of hl.1⟩, h2 _ _ _ p1.go (wk_list hl rr)⟩
  | tuple es =>
    cases e2
    refine (pi_tup (pe_k h)).run pins s σ H R I ⟨S, F, ρ, _, e, e1, fun v H1 F1 p1 => ?_⟩
    obtain ⟨a', xs, rfl, hl, rr⟩ := p1.rep
    have hl' : StT X.K (Wt S F1) H1 a' xs := hl
    exact ⟨a', rfl, ⟨xs, hl'.sq fun _ _ e _ => e⟩, h2 _ _ _ p1.go (wk_tup hl' rr)⟩
  | _ => cases e2
theorem bnd_ok {i : Int} (h : bnd62 i = true) : -(2 ^ 62) ≤ i ∧ i < 2 ^ 62 := by
  obtain ⟨a, b⟩ := and2 h
  exact ⟨of_decide_eq_true a, of_decide_eq_true b⟩
theorem pi_rng1_ (g : Gd cl N sc st X) {a : E} (hn : chkGl sc "range" n = true) (hx : NS X x) (h : PE X x (tD X.K (ev cl a))) : PI X tg (.Call n [x] [] pos) (tI X.K (evI cl (.rng1 a))) := by
  obtain ⟨p, rfl, k1, k2⟩ := chkGl_ok hn
  refine ⟨fun pins s σ H R I hw => ?_⟩
  obtain ⟨S, F, ρ, r, e, h1, h2⟩ := hw
  simp only [evI] at h1
  obtain ⟨⟨d, ρ1⟩, e1, h1⟩ := bindS h1
  split at h1
  · rename_i i hd
    obtain ⟨c, h1⟩ := iteS h1
    cases h1
    cases hd
    obtain ⟨c1, c2⟩ := bnd_ok c
    refine (pi_range1 (g.gl k1) (g.free _ (by simp [freeN])) (pa_cons (pe_k h) pa_nil (hx _ _)) (hx _ _)).run pins s σ H R I ⟨S, F, ρ, _, e, e1, fun v H1 F1 p1 => ?_⟩
    exact ⟨i, by rw [show v = .int i from p1.rep], c1, c2, h2 _ _ _ p1.go wk_range⟩
  · cases h1
theorem pi_rng2_ (g : Gd cl N sc st X) {a b : E} (hn : chkGl sc "range" n = true) (hx : NS X x) (hy : NS X y) (ha : PE X x (tD X.K (ev cl a))) (hb : PE X y (tD X.K (ev cl b))) : PI X tg (.Call n [x, y] [] pos) (tI X.K (evI cl (.rng2 a b))) := by
  obtain ⟨p, rfl, k1, k2⟩ := chkGl_ok hn
  refine ⟨fun pins s σ H R I hw => ?_⟩
  obtain ⟨S, F, ρ, r, e, h1, h2⟩ := hw
  simp only [evI] at h1
  obtain ⟨⟨d, ρ1⟩, e1, h1⟩ := bindS h1
  obtain ⟨⟨d2, ρ2⟩, e2, h1⟩ := bindS h1
  split at h1
  · rename_i i j hd hd2
    obtain ⟨c, h1⟩ := iteS h1
    cases h1
    cases hd
    cases hd2
    obtain ⟨c, c'⟩ := and2 c
    obtain ⟨c1, c2⟩ := bnd_ok c
    obtain ⟨c3, c4⟩ := bnd_ok c'
    refine (pi_range2 (g.gl k1) (g.free _ (by simp [freeN])) (pa_cons (pe_k ha) (pa_cons (pe_k hb) pa_nil (hy _ _)) (hx _ _)) (by rw [hx, hy]; rfl) (by rw [hy]; rfl)).run pins s σ H R I ⟨S, F, ρ, _, e, e1, fun v H1 F1 p1 => ⟨S, F1, ρ1, _, p1.go.env, e2, fun u H2 F2 p2 => ?_⟩⟩
    exact ⟨i, j, by rw [show v = .int i from p1.rep, show u = .int j from p2.rep], ⟨c1, c2, c3, c4⟩, h2 _ _ _ (p1.go.trans p2.go) wk_range⟩
  · cases h1
theorem pi_rng3_ (g : Gd cl N sc st X) {a b c : E} (hn : chkGl sc "range" n = true) (hx : NS X x) (hy : NS X y) (hz : NS X z) (ha : PE X x (tD X.K (ev cl a))) (hb : PE X y (tD X.K (ev cl b))) (hc : PE X z (tD X.K (ev cl c))) : PI X tg (.Call n [x, y, z] [] pos) (tI X.K (evI cl (.rng3 a b c))) := by
  obtain ⟨p, rfl, k1, k2⟩ := chkGl_ok hn
  refine ⟨fun pins s σ H R I hw => ?_⟩
  obtain ⟨S, F, ρ, r, e, h1, h2⟩ := hw
  simp only [evI] at h1
  obtain ⟨⟨d, ρ1⟩, e1, h1⟩ := bindS h1
  obtain ⟨⟨d2, ρ2⟩, e2, h1⟩ := bindS h1
  obtain ⟨⟨d3, ρ3⟩, e3, h1⟩ := bindS h1
  split at h1
  · rename_i i j k hd hd2 hd3
    obtain ⟨c, h1⟩ := iteS h1
    cases h1
    cases hd
    cases hd2
    cases hd3
    simp only [Bool.and_eq_true, decide_eq_true_eq] at c
    obtain ⟨⟨⟨c1, c2⟩, c3⟩, c4⟩ := c
    refine (pi_range3 (g.gl k1) (g.free _ (by simp [freeN])) (pa_cons (pe_k ha) (pa_cons (pe_k hb) (pa_cons (pe_k hc) pa_nil (hz _ _)) (hy _ _)) (hx _ _)) (hx _ _) (by rw [hy, hz]; rfl)).run pins s σ H R I ⟨S, F, ρ, _, e, e1, fun v H1 F1 p1 => ⟨S, F1, ρ1, _, p1.go.env, e2, fun u H2 F2 p2 => ⟨S, F2, ρ2, _, p2.go.env, e3, fun w H3 F3 p3 => ?_⟩⟩⟩
    refine ⟨i, j, k, (Builtin.Range.rangeSize i j k).toNat, by rw [show v = .int i from p1.rep, show u = .int j from p2.rep, show w = .int k from p3.rep], ⟨c1, by omega, c3, by omega⟩, h2 _ _ _ ((p1.go.trans p2.go).trans p3.go) wk_rangeC⟩
  · cases h1
theorem pi_enum_ (g : Gd cl N sc st X) {a : E} {es : List Expr} {kk : Nat} {tpos : Pos} (hn : chkGl sc "enumerate" n = true) (hx : NS X x) (h : PE X x (tD X.K (ev cl a))) : PI X (.Tuple es kk tpos) (.Call n [x] [] pos) (tI X.K (evI cl (.enum a))) := by
  obtain ⟨p, rfl, k1, k2⟩ := chkGl_ok hn
  refine ⟨fun pins s σ H R I hw => ?_⟩
  obtain ⟨S, F, ρ, r, e, h1, h2⟩ := hw
  simp only [evI] at h1
  obtain ⟨⟨d, ρ1⟩, e1, h1⟩ := bindS h1
  obtain ⟨ds, e2, rfl⟩ := mapS h1
  cases d with
  | list es =>
    cases e2
    refine (pi_enum (g.gl k1) (g.free _ (by simp [freeN])) (pa_cons (pe_k h) pa_nil (hx _ _)) (hx _ _)).run pins s σ H R I ⟨S, F, ρ, _, e, e1, fun v H1 F1 p1 => ?_⟩
    obtain ⟨a', xs, rfl, hl, rr⟩ := p1.rep
    exact ⟨a', xs, rfl, SqL.of hl.1, h2 _ _ _ p1.go (wk_enumL hl rr)⟩
  | tuple es =>
    cases e2
    refine (pi_enT (g.gl k1) (g.free _ (by simp [freeN])) (pa_cons (pe_k h) pa_nil (hx _ _)) (hx _ _)).run pins s σ H R I ⟨S, F, ρ, _, e, e1, fun v H1 F1 p1 => ?_⟩
    obtain ⟨a', xs, rfl, hl, rr⟩ := p1.rep
    have hl' : StT X.K (Wt S F1) H1 a' xs := hl
    exact ⟨a', xs, rfl, hl'.sq fun _ _ e _ => e, h2 _ _ _ p1.go (wk_enumT hl' rr)⟩
  | _ => cases e2
theorem pi_zip_ (g : Gd cl N sc st X) {a b : E} {es : List Expr} {kk : Nat} {tpos : Pos} (hn : chkGl sc "zip" n = true) (hx : NS X x) (hy : NS X y) (ha : PE X x (tD X.K (ev cl a))) (hb : PE X y (tD X.K (ev cl b))) : PI X (.Tuple es kk tpos) (.Call n [x, y] [] pos) (tI X.K (evI cl (.zip a b))) := by
  obtain ⟨p, rfl, k1, k2⟩ := chkGl_ok hn
  refine ⟨fun pins s σ H R I hw => ?_⟩
  obtain ⟨S, F, ρ, r, e, h1, h2⟩ := hw
  simp only [evI] at h1
  obtain ⟨⟨d, ρ1⟩, e1, h1⟩ := bindS h1
  obtain ⟨⟨d2, ρ2⟩, e2, h1⟩ := bindS h1
  obtain ⟨ds, e3, rfl⟩ := mapS h1
  refine (RZ.pi_zipA (g.gl k1) (g.free _ (by simp [freeN])) (pa_cons (pe_k ha) (pa_cons (pe_k hb) pa_nil (hy _ _)) (hx _ _)) (hx _ _) (by rw [hy]; rfl)).run pins s σ H R I ⟨S, F, ρ, _, e, e1, fun v H1 F1 p1 => ⟨S, F1, ρ1, _, p1.go.env, e2, fun u H2 F2 p2 => ?_⟩⟩
  have q1 : Rep X.K (Wt S F2) H2 d v := p2.go.rep p1.rep
  have q2 : Rep X.K (Wt S F2) H2 d2 u := p2.rep
  have gg := p1.go.trans p2.go
  cases d with
  | list es1 =>
    cases d2 with
    | list es2 =>
      cases e3
      obtain ⟨a1, xs, rfl, hl, rr⟩ := q1
      obtain ⟨a2, ys, rfl, hl2, rr2⟩ := q2
      exact ⟨a1, a2, xs, ys, rfl, .inl ⟨SqL.of hl.1, SqL.of hl2.1, h2 _ _ _ gg (wk_zipL hl hl2 rr rr2)⟩⟩
    | _ => cases e3
  | tuple es1 =>
    cases d2 with
    | tuple es2 =>
      cases e3
      obtain ⟨a1, xs, rfl, hl, rr⟩ := q1
      obtain ⟨a2, ys, rfl, hl2, rr2⟩ := q2
      have hl' : StT X.K (Wt S F2) H2 a1 xs := hl
      have hl2' : StT X.K (Wt S F2) H2 a2 ys := hl2
      exact ⟨a1, a2, xs, ys, rfl, .inr ⟨hl'.sq fun _ _ e _ => e, hl2'.sq fun _ _ e _ => e, h2 _ _ _ gg (wk_zipT hl' hl2' rr rr2)⟩⟩
    | _ => cases e3
  | _ => cases d2 <;> cases e3
/-- list(range(a, b)) -/
theorem upTo_map {lo : Int} {n : Nat} {K : PySem.W.Frag} {W : Addr → Prop} {H : Hp} : Reps K W H (upTo lo 1 n) ((List.range n).map fun i => V.int (lo + (i : Nat))) := by
  have key : ∀ l : List Nat, Reps K W H (l.map fun i => PyData.int (lo + (i : Nat) * 1)) (l.map fun i => V.int (lo + (i : Nat))) := by
    intro l
    induction l with
    | nil => rfl
    | cons i l ih => exact .cons (by show V.int _ = V.int _; rw [Int.mul_one]) ih
  exact key _
theorem pe_lrg_ (g : Gd cl N sc st X) {a b : E} {n' : Expr} {pos' : Pos} (hn : chkGl sc "list" n = true) (hn' : chkGl sc "range" n' = true) (hx : NS X x) (hy : NS X y) (ha : PE X x (tD X.K (ev cl a))) (hb : PE X y (tD X.K (ev cl b))) :
    PE X (.Call n [.Call n' [x, y] [] pos'] [] pos) (tD X.K (ev cl (.lrg a b))) := by
  obtain ⟨p, rfl, k1, k2⟩ := chkGl_ok hn
  obtain ⟨p', rfl, k3, k4⟩ := chkGl_ok hn'
  refine pe_w (pe_listRg g.calm (g.gl k1) (g.free _ (by simp [freeN])) (prg_2 (g.gl k3) (g.free _ (by simp [freeN])) (pe_k ha) (pe_k hb) (hx _ _) (hy _ _) (by rw [hy]; rfl)) rfl) fun σ H Q ⟨S, F, ρ, r, e, h1, h2⟩ => ?_
  simp only [ev] at h1
  obtain ⟨⟨d, ρ1⟩, e1, h1⟩ := bindS h1
  obtain ⟨⟨d2, ρ2⟩, e2, h1⟩ := bindS h1
  split at h1
  · rename_i i j hd hd2
    obtain ⟨c, h1⟩ := iteS h1
    cases h1
    cases hd
    cases hd2
    obtain ⟨c, c'⟩ := and2 c
    obtain ⟨c, c''⟩ := and2 c
    obtain ⟨c1, c2⟩ := bnd_ok c
    obtain ⟨c3, c4⟩ := bnd_ok c''
    have c5 := of_decide_eq_true c'
    refine ⟨S, F, ρ, _, e, e1, fun v H1 F1 p1 => ⟨S, F1, ρ1, _, p1.go.env, e2, fun u H2 F2 p2 => ?_⟩⟩
    refine ⟨i, j, p1.rep, p2.rep, ⟨c1, c2, c3, c4, Nat.le_trans c5 (by decide)⟩, fun q hq => ?_⟩
    obtain ⟨A, t⟩ := (NewV.lst hq (upTo_map (lo := i) (n := (j - i).toNat))).post (p1.go.trans p2.go)
    exact h2 _ _ _ _ t
  · cases h1
end
end Mini

end
section
set_option Elab.async false
set_option linter.all false
set_option maxRecDepth 100000
set_option maxHeartbeats 4000000
/-! Mini, part 16: comprehensions. -/
namespace Mini
open PySem PySem.Spec PyProof.Rows L2
/-- what is told of the object that is built -/
abbrev ARel := (Addr → Prop) → Hp → HO → Prop
structure ARStep (AR : ARel) : Prop where
  step : ∀ (W : Addr → Prop) (H : Hp) (W' : Addr → Prop) (H' : Hp) (o : HO), (∀ b u, H b = some u → ¬ W b → H' b = some u) → (∀ a, W' a → W a ∨ H a = none) → AR W H o → AR W' H' o
/-- in a comprehension: D is being built -/
structure CI (K : PySem.W.Frag) (S : Addr → Prop) (F1 : Fs) (H1 : Hp) (D : Addr) (AR : ARel) (σw : L2.St) (Fi : Fs) (ρi : En) (Hi : Hp) : Prop where
  env : EnvOk K (addS S [D]) Fi ρi σw Hi
  fr : Fr F1 H1 Fi Hi
  sub : ∀ j, Fi j = F1 j ∨ Fi j = []
  obj : ∃ o, Hi D = some o ∧ AR (Wt (addS S [D]) Fi) Hi o
section
variable {K : PySem.W.Frag} {S : Addr → Prop} {F1 Fi F2 F4 : Fs} {H1 Hi H' H4 : Hp} {D : Addr} {AR AR' : ARel} {σw σ2 : L2.St} {ρi ρ2 ρ4 : En} {own : List Nat}
theorem CI.kp (c : CI K S F1 H1 D AR σw Fi ρi Hi) : ∀ b o, H1 b = some o → ¬ Wt S F1 b → Hi b = some o := fun b o e n => c.fr.keep b o e fun i z => n (.inr ⟨i, z⟩)
theorem CI.wt (c : CI K S F1 H1 D AR σw Fi ρi Hi) (hD : H1 D = none) : ∀ a, Wt (addS S [D]) Fi a → Wt S F1 a ∨ H1 a = none := fun a z => by
  rcases z with (z | z) | ⟨i, z⟩
  · exact .inl (.inl z)
  · rw [List.mem_singleton.mp z]; exact .inr hD
  · rcases c.fr.new i a z with ⟨j, q⟩ | q
    · exact .inl (.inr ⟨j, q⟩)
    · exact .inr q
theorem CI.emp (c : CI K S F1 H1 D AR σw Fi ρi Hi) {i : Nat} (h : F1 i = []) : Fi i = [] := by
  rcases c.sub i with e | e
  · rw [e]; exact h
  · exact e
theorem CI.turn (c : CI K S F1 H1 D AR σw Fi ρi Hi) (hA : ARStep AR) (sm : Same Hi H') (g : Go K (addS S [D]) Fi σ2 H' F4 ρ4 H4) (h0 : ∀ i ∈ own, F1 i = []) (hw : L2.wipe σ2 own = σw) : CI K S F1 H1 D AR σw F4 (wipe ρ4 own) H4 := by
  have s4 : ∀ j, F4 j = F1 j ∨ F4 j = [] := fun j => by
    rcases g.sub j with e | e
    · rw [e]; exact c.sub j
    · exact .inr e
  have ke : ∀ b u, Hi b = some u → ¬ Wt (addS S [D]) Fi b → H4 b = some u := fun b u e n => g.fr.keep b u (sm b u e) fun i z => n (.inr ⟨i, z⟩)
  refine ⟨?_, (c.fr.trans (Fr.same sm)).trans g.fr, s4, ?_⟩
  · rw [← hw]
    refine g.env.wipe own fun i hi => ?_
    rcases s4 i with e | e
    · rw [e]; exact h0 i hi
    · exact e
  · obtain ⟨o, ho, r⟩ := c.obj
    refine ⟨o, g.fr.keep D o (sm D o ho) fun i z => c.env.ext i D z (.inr (List.mem_singleton.mpr rfl)), hA.step _ _ _ _ o ke (fun a z => .inl ?_) r⟩
    exact g.wt z
theorem CI.put (c : CI K S F1 H1 D AR σw Fi ρi Hi) (hD : H1 D = none) {o : HO} (ho : mu (upd Hi D o) D) (r : AR' (Wt (addS S [D]) Fi) (upd Hi D o) o) : CI K S F1 H1 D AR' σw Fi ρi (upd Hi D o) :=
  ⟨c.env.putS (.inr (List.mem_singleton.mpr rfl)) ho, c.fr.putNew hD, c.sub, o, upd_same, r⟩
theorem CI.upd (c : CI K S F1 H1 D AR σw Fi ρi Hi) {o : HO} : ∀ b u, Hi b = some u → ¬ Wt (addS S [D]) Fi b → upd Hi D o b = some u := fun b u e n => by
  rw [upd_ne fun z => n (.inl (.inr (List.mem_singleton.mpr z)))]
  exact e
end
/-- what a turn may be asked: nothing, or a value -/
def RepO (K : PySem.W.Frag) (W : Addr → Prop) (H : Hp) : Option Dt → Option V → Prop
  | some d, some v => Rep K W H d v
  | none, none => True
  | _, _ => False
abbrev TO := L2.St → Hp → (Option V → Hp → Prop) → Prop
def tOpt (K : PySem.W.Frag) (m : En → Option (Option Dt × En)) : TO := fun σ H Q => ∃ S F ρ r, EnvOk K S F ρ σ H ∧ m ρ = some r ∧ ∀ v H' F', Go K S F σ H F' r.2 H' → RepO K (Wt S F') H' r.1 v → Q v H'
def tM (tt : TT) (te : TE) : TO := fun σ H Q => tt σ H fun b H3 => if b = true then te σ H3 fun y H4 => Q (some y) H4 else Q none H3
section
variable {K : PySem.W.Frag} {S : Addr → Prop} {F F1 : Fs} {σ : L2.St} {H H1 : Hp} {ρ1 : En} {own : List Nat}
def ownFree (ρ : En) (own : List Nat) : Bool := own.all (fun i => decide ((rd ρ i).map (·.1) ≠ some .own ∧ (rd ρ i).map (·.1) ≠ some .src))
theorem own_free {ρ : En} (e : EnvOk K S F ρ σ H) (h : ownFree ρ own = true) : ∀ i ∈ own, F i = [] ∧ ∀ fl d, rd ρ i = some (fl, d) → fl = .sh ∧ ∃ v, σ[i]? = some (some v) ∧ Rep K (Wt S F) H d v := fun i hi => by
  have k := of_decide_eq_true (List.all_eq_true.mp h i hi)
  cases hr : rd ρ i with
  | none => exact ⟨e.emp i hr, fun fl d z => by cases z⟩
  | some sl =>
    obtain ⟨fl, d⟩ := sl
    obtain ⟨v, hv, r⟩ := e.slot i fl d hr
    rw [hr] at k
    generalize hA : F i = A at r
    cases r with
    | sh r => exact ⟨rfl, fun fl d z => by cases z; exact ⟨rfl, v, hv, r⟩⟩
    | lst _ _ => exact absurd rfl k.1
    | dct _ _ => exact absurd rfl k.1
    | src _ _ _ => exact absurd rfl k.2
    | scr _ => exact absurd rfl k.2
theorem wipe_out {τ : L2.St} {j : Nat} : ∀ {is : List Nat}, j ∉ is → (L2.wipe τ is)[j]? = τ[j]?
  | [], _ => rfl
  | i :: is, h => by
    simp only [List.mem_cons, not_or] at h
    show ((L2.wipe τ is).set i none)[j]? = _
    rw [List.getElem?_set_ne (Ne.symm h.1)]
    exact wipe_out h.2
/-- the end of a comprehension -/
theorem CI.done {AR : ARel} {D : Addr} {Fn : Fs} {ρn : En} {Hn : Hp} {d : Dt} (c : CI K S F1 H1 D AR (L2.wipe σ own) Fn ρn Hn) (g : Go K S F σ H F1 ρ1 H1) (hD : H1 D = none) (hf : ownFree ρ1 own = true)
    (r : SlotRep K (Wt (addS S [D]) Fn) Hn .own (.ref D) d [D]) : PostE K S F σ H ((.own, d), back ρ1 ρn own) (.ref D) Hn Fn [D] := by
  have fr := own_free g.env hf
  refine ⟨c.env.back g.env.len (fun i hi => c.emp (fr i hi).1) (fun i hi fl d hr => ?_), .slot rfl r, g.fr.trans c.fr, fun j => ?_, fun a ha => .inr ?_, fun a ha => ?_⟩
  · obtain ⟨rfl, v, hv, q⟩ := (fr i hi).2 fl d hr
    exact ⟨rfl, v, hv, q.step c.kp (c.wt hD)⟩
  · rcases c.sub j with e | e
    · rw [e]; exact g.sub j
    · exact .inr e
  · rw [List.mem_singleton.mp ha]
    cases e : H D with
    | none => rfl
    | some o => exact absurd hD (g.fr.there D (by rw [e]; exact Option.some_ne_none _))
  · rw [List.mem_singleton.mp ha]
    exact fun z => g.env.wfree hD (.inl z)
end
section
variable {X : Cx} {cl : CallS}
/-- a turn's target, stored -/
theorem turn_g {p : Pat} {own : List Nat} {S : Addr → Prop} {F1 Fi : Fs} {H1 Hi H' : Hp} {D : Addr} {AR : ARel} {σ : L2.St} {ρi ρ2 : En} {d : Dt} {x : V} {Q : L2.St → Hp → Prop} (c : CI X.K S F1 H1 D AR (L2.wipe σ own) Fi ρi Hi) (hp : ∀ i ∈ slots p, i ∈ own) (h0 : ∀ i ∈ own, F1 i = [])
    (sm : Same Hi H') (r : Rep X.K (Wt (addS S [D]) Fi) H' d x) (b : bind p (.sh, d) ρi = some ρ2) (k : ∀ σ2, EnvOk X.K (addS S [D]) Fi ρ2 σ2 H' → L2.wipe σ2 own = L2.wipe σ own → Q σ2 H') : tG X.K p x (L2.wipe σ own) H' Q := by
  refine ⟨addS S [D], Fi, ρi, .sh, d, [], ρ2, (by rw [addS0]; exact c.env.same sm), rfl, .sh (by rw [addS0]; exact r), fun a ha => (by cases ha), b, fun σ2 F2 pg => ?_⟩
  have eF : F2 = Fi := funext fun j => by
    by_cases hj : j ∈ slots p
    · have e1 : Fi j = [] := c.emp (h0 j (hp j hj))
      rw [e1]
      refine List.eq_nil_iff_forall_not_mem.mpr fun a ha => ?_
      rcases pg.mem j a ha with z | z
      · cases z
      · rw [e1] at z; cases z
    · exact (pg.out j hj).1
  subst eF
  refine k σ2 pg.env ?_
  refine wipe_ext (by rw [pg.len, L2.wipe_length]) fun j hj => ?_
  rw [(pg.out j fun z => hj (hp j z)).2, wipe_out hj]
/-- a list comprehension, whatever its turns -/
theorem lc_any {it : It} {p : Pat} {own : List Nat} {tt : TT} {te : TE} {m : En → Option (Option Dt × En)} {h : En → Option (Sl × En)} (hp : ∀ i ∈ slots p, i ∈ own) (hm : ∀ σ H Q, tOpt X.K m σ H Q → tM tt te σ H Q)
    (hev : ∀ ρ r, h ρ = some r → ∃ q z, evI cl it ρ = some q ∧ q.1.length ≤ lim ∧ ownFree q.2 own = true ∧ compL (fun ρ x => (bind p (.sh, x) ρ).bind fun ρ2 => (m ρ2).map fun r => (r.1, wipe r.2 own)) q.1 (wipe q.2 own) = some z ∧ r = ((.own, .list z.1), back q.2 z.2 own)) :
    ∀ σ H Q, tD X.K h σ H Q → tLc (tI X.K (evI cl it)) (tG X.K p) tt te own σ H Q := by
  rintro σ H Q ⟨S, F, ρ, r, e, h1, h2⟩
  obtain ⟨q, z, e1, l1, hf, e2, rfl⟩ := hev ρ r h1
  generalize hb : (fun ρ x => (bind p (.sh, x) ρ).bind fun ρ2 => (m ρ2).map fun r => (r.1, wipe r.2 own)) = f at e2
  refine ⟨S, F, ρ, q, e, e1, fun J H1 F1 g1 wk D hD => ?_⟩
  have h0 : ∀ i ∈ own, F1 i = [] := fun i hi => (own_free g1.env hf i hi).1
  let AR : List Dt → ARel := fun ds W H o => ∃ xs, o = .lst xs ∧ Reps X.K W H ds xs
  have hA : ∀ ds, ARStep (AR ds) := fun ds => ⟨fun W H W' H' o k1 k2 ⟨xs, e, r⟩ => ⟨xs, e, r.step k1 k2⟩⟩
  refine ⟨fun i m' Hi => m' = q.1.length - i ∧ i ≤ q.1.length ∧ ∃ Fi ρi acc rest, CI X.K S F1 H1 D (AR acc) (L2.wipe σ own) Fi ρi Hi ∧ compL f (q.1.drop i) ρi = some (rest, z.2) ∧ acc ++ rest = z.1 ∧ acc.length ≤ i, ⟨q.1.length, by simp, Nat.zero_le _, F1, _, [], z.1, ?_, by simpa using e2, rfl, Nat.le_refl _⟩, ?_⟩
  · refine ⟨(g1.env.grow hD (.inl ⟨_, upd_same⟩)).wipe own h0, Fr.same (same_upd hD), fun _ => .inl rfl, _, upd_same, [], rfl, rfl⟩
  rintro i m' Hi ⟨rfl, hi, Fi, ρi, acc, rest, c, e3, e4, e5⟩
  by_cases hlt : i < q.1.length
  · refine .inr ⟨wk.goes i Hi hlt c.kp, fun H' => ∃ Fi ρi acc rest, CI X.K S F1 H1 D (AR acc) (L2.wipe σ own) Fi ρi H' ∧ compL f (q.1.drop (i + 1)) ρi = some (rest, z.2) ∧ acc ++ rest = z.1 ∧ acc.length ≤ i + 1, fun H' p' => ⟨q.1.length - (i + 1), by omega, rfl, hlt, p'⟩, fun x H' y => ?_⟩
    obtain ⟨d, hd, sm, rr⟩ := wk.yields i Hi x H' hlt c.kp y
    have rx := rr _ (c.wt hD) fun a z => (c.env.wt a z).ne
    have hdrop : q.1.drop i = d :: q.1.drop (i + 1) := by
      rw [List.drop_eq_getElem_cons hlt]
      rw [List.getElem?_eq_getElem hlt] at hd
      cases hd
      rfl
    rw [hdrop] at e3
    obtain ⟨r1, f1, e3⟩ := bindS (show (f ρi d).bind (fun r => (compL f (q.1.drop (i + 1)) r.2).map fun q => (r.1.toList ++ q.1, q.2)) = some (rest, z.2) from e3)
    obtain ⟨z1, f2, e6⟩ := mapS e3
    rw [← hb] at f1
    obtain ⟨ρ2, b1, f1⟩ := bindS f1
    obtain ⟨mr, em, rfl⟩ := mapS f1
    refine turn_g c hp h0 sm rx b1 fun σ2 env2 hw => ⟨hw, ?_⟩
    refine hm σ2 H' (fun v H4 => match v with
      | some y => ∃ acc, H4 D = some (.lst acc) ∧ acc.length < sizeLine ∧ ∃ Fi ρi acc' rest, CI X.K S F1 H1 D (AR acc') (L2.wipe σ own) Fi ρi (upd H4 D (.lst (acc ++ [y]))) ∧ compL f (q.1.drop (i + 1)) ρi = some (rest, z.2) ∧ acc' ++ rest = z.1 ∧ acc'.length ≤ i + 1
      | none => ∃ Fi ρi acc rest, CI X.K S F1 H1 D (AR acc) (L2.wipe σ own) Fi ρi H4 ∧ compL f (q.1.drop (i + 1)) ρi = some (rest, z.2) ∧ acc ++ rest = z.1 ∧ acc.length ≤ i + 1) ⟨_, Fi, ρ2, mr, env2, em, fun v H4 F4 g4 rv => ?_⟩
    have c4 := c.turn (hA acc) sm g4 h0 hw
    obtain ⟨md, mρ⟩ := mr
    have e6' : z1.2 = z.2 ∧ rest = md.toList ++ z1.1 := by
      have := e6
      simp only [Prod.mk.injEq] at this
      exact ⟨this.2, this.1.symm⟩
    obtain ⟨z2, rfl⟩ := e6'
    have f2' : compL f (q.1.drop (i + 1)) (wipe mρ own) = some (z1.1, z.2) := by
      rw [← z2]; exact f2
    cases md with
    | none =>
      cases v with
      | some y => cases rv
      | none => exact ⟨F4, _, acc, z1.1, c4, f2', by simpa using e4, by omega⟩
    | some d' =>
      cases v with
      | none => cases rv
      | some y =>
        obtain ⟨o, ho, xs, rfl, rs⟩ := c4.obj
        have hl : xs.length ≤ i := by rw [← rs.length]; exact e5
        refine ⟨xs, ho, Nat.lt_of_le_of_lt hl (Nat.lt_of_lt_of_le hlt (lim_line l1)), F4, _, acc ++ [d'], z1.1, c4.put (AR' := AR (acc ++ [d'])) hD (.inl ⟨_, upd_same⟩) ⟨xs ++ [y], rfl, ?_⟩, f2', by simpa using e4, by simp; omega⟩
        have rv' : Rep X.K (Wt (addS S [D]) F4) H4 d' y := rv
        exact (rs.append (.cons rv' .nil)).step c4.upd fun a z => .inl z
  · have e : i = q.1.length := by omega
    subst e
    rw [List.drop_length] at e3
    cases e3
    obtain ⟨o, ho, xs, rfl, rs⟩ := c.obj
    refine .inl ⟨wk.stops Hi c.kp, h2 _ _ _ _ (c.done g1 hD hf ?_)⟩
    rw [← e4, List.append_nil]
    exact .lst ho rs
theorem RepKv.any {K : PySem.W.Frag} {W : Addr → Prop} {H : Hp} {k : Key} : ∀ {es : List (Dt × Dt)} {kvs : List (Key × V)}, RepKv K W H es kvs → es.any (fun p => eqK p.1 (keyD k)) = kvs.any (fun kv => decide (kv.1 = k))
  | [], _, r => by rw [show _ = _ from r]; rfl
  | (kd, d) :: es, _, ⟨j, v, q, e, e1, r, rs⟩ => by
    subst e e1
    simp only [List.any_cons, eqK_key]
    rw [RepKv.any rs]
theorem RepKv.map {K : PySem.W.Frag} {W : Addr → Prop} {H : Hp} {k : Key} {d : Dt} {v : V} (rv : Rep K W H d v) : ∀ {es : List (Dt × Dt)} {kvs : List (Key × V)}, RepKv K W H es kvs →
    RepKv K W H (es.map fun p => if eqK p.1 (keyD k) = true then (p.1, d) else p) (kvs.map fun kv => if kv.1 = k then (kv.1, v) else kv)
  | [], _, r => by rw [show _ = _ from r]; rfl
  | (kd, d') :: es, _, ⟨j, v', q, e, e1, r, rs⟩ => by
    subst e e1
    show RepKv K W H ((if eqK (keyD j) (keyD k) = true then (keyD j, d) else (keyD j, d')) :: _) ((if j = k then (j, v) else (j, v')) :: _)
    rw [eqK_key]
    by_cases h : j = k
    · rw [if_pos h, if_pos (decide_eq_true h)]
      exact ⟨j, v, _, rfl, rfl, rv, RepKv.map rv rs⟩
    · rw [if_neg h, if_neg (by simpa using h)]
      exact ⟨j, v', _, rfl, rfl, r, RepKv.map rv rs⟩
theorem RepKv.snoc {K : PySem.W.Frag} {W : Addr → Prop} {H : Hp} {k : Key} {d : Dt} {v : V} (rv : Rep K W H d v) : ∀ {es : List (Dt × Dt)} {kvs : List (Key × V)}, RepKv K W H es kvs → RepKv K W H (es ++ [(keyD k, d)]) (kvs ++ [(k, v)])
  | [], _, r => by rw [show _ = _ from r]; exact ⟨k, v, [], rfl, rfl, rv, rfl⟩
  | (kd, d') :: es, _, ⟨j, v', q, e, e1, r, rs⟩ => by
    subst e e1
    exact ⟨j, v', _, rfl, rfl, r, RepKv.snoc rv rs⟩
theorem RepKv.put {K : PySem.W.Frag} {W : Addr → Prop} {H : Hp} {k : Key} {d : Dt} {v : V} {es : List (Dt × Dt)} {kvs : List (Key × V)} (r : RepKv K W H es kvs) (rv : Rep K W H d v) : RepKv K W H (kvPut es (keyD k) d) (L2.putK kvs k v) := by
  unfold kvPut L2.putK
  rw [r.any]
  split
  · exact r.map rv
  · exact r.snoc rv
theorem RepKv.length {K : PySem.W.Frag} {W : Addr → Prop} {H : Hp} : ∀ {es : List (Dt × Dt)} {kvs : List (Key × V)}, RepKv K W H es kvs → es.length = kvs.length
  | [], _, r => by rw [show _ = _ from r]; rfl
  | (kd, d) :: es, _, ⟨j, v, q, e, e1, r, rs⟩ => by subst e; simp [RepKv.length rs]
theorem kvPut_len (es : List (Dt × Dt)) (k d : Dt) : (kvPut es k d).length ≤ es.length + 1 := by
  unfold kvPut
  split <;> simp
theorem kvOf_len (ps : List Dt) : (kvOf ps).length ≤ ps.length := by
  have key : ∀ (ps : List Dt) (es : List (Dt × Dt)), (ps.foldl kvAdd es).length ≤ es.length + ps.length := by
    intro ps
    induction ps with
    | nil => intro es; simp
    | cons p ps ih =>
      intro es
      have h1 := ih (kvAdd es p)
      have h2 : (kvAdd es p).length ≤ es.length + 1 := by
        unfold kvAdd
        split
        · exact kvPut_len _ _ _
        · omega
      simp only [List.foldl_cons, List.length_cons]
      omega
  have := key ps []
  rw [List.length_nil, Nat.zero_add] at this
  exact this
/-- a dict comprehension -/
theorem dc_any {it : It} {p : Pat} {own : List Nat} {ek ed : E} (hp : ∀ i ∈ slots p, i ∈ own) :
    ∀ σ H Q, tD X.K (ev cl (.dcomp ek ed p it own)) σ H Q → tDc (tI X.K (evI cl it)) (tG X.K p) tYes (tK X.K fun ρ => keepS (ev cl ek ρ)) (tK X.K fun ρ => keepS (ev cl ed ρ)) own σ H Q := by
  rintro σ H Q ⟨S, F, ρ, r, e, h1, h2⟩
  simp only [ev] at h1
  obtain ⟨q, e1, h1⟩ := bindS h1
  obtain ⟨c1, h1⟩ := iteS h1
  obtain ⟨c1, c2⟩ := and2 c1
  have l1 := of_decide_eq_true c1
  have hf : ownFree q.2 own = true := c2
  obtain ⟨z, e2, rfl⟩ := mapS h1
  generalize hb : (fun (ρ' : En) x => (bind p (.sh, x) ρ').bind fun ρ'' => (keepS (ev cl ek ρ'')).bind fun q => if isKey q.1 = true then (keepS (ev cl ed q.2)).map fun t => (some (PyData.tuple [q.1, t.1]), wipe t.2 own) else none) = f at e2
  refine ⟨S, F, ρ, q, e, e1, fun J H1 F1 g1 wk D hD => ?_⟩
  have h0 : ∀ i ∈ own, F1 i = [] := fun i hi => (own_free g1.env hf i hi).1
  let AR : List Dt → ARel := fun ds W H o => ∃ xs, o = .dK xs ∧ RepKv X.K W H (kvOf ds) xs
  have hA : ∀ ds, ARStep (AR ds) := fun ds => ⟨fun W H W' H' o k1 k2 ⟨xs, e, r⟩ => ⟨xs, e, r.step k1 k2⟩⟩
  refine ⟨fun i m' Hi => m' = q.1.length - i ∧ i ≤ q.1.length ∧ ∃ Fi ρi acc rest, CI X.K S F1 H1 D (AR acc) (L2.wipe σ own) Fi ρi Hi ∧ compL f (q.1.drop i) ρi = some (rest, z.2) ∧ acc ++ rest = z.1 ∧ acc.length ≤ i, ⟨q.1.length, by simp, Nat.zero_le _, F1, _, [], z.1, ?_, by simpa using e2, rfl, Nat.le_refl _⟩, ?_⟩
  · refine ⟨(g1.env.grow hD (.inr ⟨_, upd_same⟩)).wipe own h0, Fr.same (same_upd hD), fun _ => .inl rfl, _, upd_same, [], rfl, rfl⟩
  rintro i m' Hi ⟨rfl, hi, Fi, ρi, acc, rest, c, e3, e4, e5⟩
  by_cases hlt : i < q.1.length
  · refine .inr ⟨wk.goes i Hi hlt c.kp, fun H' => ∃ Fi ρi acc rest, CI X.K S F1 H1 D (AR acc) (L2.wipe σ own) Fi ρi H' ∧ compL f (q.1.drop (i + 1)) ρi = some (rest, z.2) ∧ acc ++ rest = z.1 ∧ acc.length ≤ i + 1, fun H' p' => ⟨q.1.length - (i + 1), by omega, rfl, hlt, p'⟩, fun x H' y => ?_⟩
    obtain ⟨d, hd, sm, rr⟩ := wk.yields i Hi x H' hlt c.kp y
    have rx := rr _ (c.wt hD) fun a z => (c.env.wt a z).ne
    have hdrop : q.1.drop i = d :: q.1.drop (i + 1) := by
      rw [List.drop_eq_getElem_cons hlt]
      rw [List.getElem?_eq_getElem hlt] at hd
      cases hd
      rfl
    rw [hdrop] at e3
    obtain ⟨r1, f1, e3⟩ := bindS (show (f ρi d).bind (fun r => (compL f (q.1.drop (i + 1)) r.2).map fun q => (r.1.toList ++ q.1, q.2)) = some (rest, z.2) from e3)
    obtain ⟨z1, f2, e6⟩ := mapS e3
    rw [← hb] at f1
    obtain ⟨ρ2, b1, f1⟩ := bindS f1
    obtain ⟨k1, ek1, f1⟩ := bindS f1
    obtain ⟨ck, f1⟩ := iteS f1
    obtain ⟨d1, ed1, rfl⟩ := mapS f1
    obtain ⟨kk, hk⟩ := keyOf ck
    refine turn_g c hp h0 sm rx b1 fun σ2 env2 hw => ⟨hw, ?_⟩
    unfold tYes
    simp only [if_true]
    refine ⟨_, Fi, ρ2, k1, env2, ek1, fun u H3 F3 p3 => ⟨_, F3, k1.2, d1, p3.go.env, ed1, fun v H4 F4 p4 => ?_⟩⟩
    have c4 := c.turn (hA acc) sm (p3.go.trans p4.go) h0 hw
    have e6' : z1.2 = z.2 ∧ rest = PyData.tuple [k1.1, d1.1] :: z1.1 := by
      have := e6
      simp only [Prod.mk.injEq] at this
      exact ⟨this.2, this.1.symm⟩
    obtain ⟨z2, rfl⟩ := e6'
    have f2' : compL f (q.1.drop (i + 1)) (wipe d1.2 own) = some (z1.1, z.2) := by
      rw [← z2]; exact f2
    obtain ⟨o, ho, xs, rfl, rs⟩ := c4.obj
    have hl : xs.length ≤ i := by
      rw [← rs.length]
      exact Nat.le_trans (kvOf_len acc) e5
    have hu : u = kV kk := by
      have r3 := p3.rep
      rw [hk] at r3
      cases kk <;> exact r3
    refine ⟨xs, kk, hu, ho, Nat.lt_of_le_of_lt hl (Nat.lt_of_lt_of_le hlt (lim_line l1)), F4, _, acc ++ [PyData.tuple [k1.1, d1.1]], z1.1, c4.put (AR' := AR (acc ++ [PyData.tuple [k1.1, d1.1]])) hD (.inr ⟨_, upd_same⟩) ⟨_, rfl, ?_⟩, f2', by simpa using e4, by simp; omega⟩
    have e7 : kvOf (acc ++ [PyData.tuple [k1.1, d1.1]]) = kvPut (kvOf acc) (keyD kk) d1.1 := by
      unfold kvOf
      rw [List.foldl_append, ← hk]
      rfl
    rw [e7]
    have rv' : Rep X.K (Wt (addS S [D]) F4) H4 d1.1 v := p4.rep
    exact (rs.put rv').step c4.upd fun a z => .inl z
  · have e : i = q.1.length := by omega
    subst e
    rw [List.drop_length] at e3
    cases e3
    obtain ⟨o, ho, xs, rfl, rs⟩ := c.obj
    refine .inl ⟨wk.stops Hi c.kp, h2 _ _ _ _ (c.done g1 hD hf ?_)⟩
    rw [← e4, List.append_nil]
    exact .dct ho rs
/-! ### the two list forms -/
theorem comp_w {it : It} {p : Pat} {own : List Nat} {elt : E} (hp : ∀ i ∈ slots p, i ∈ own) :
    ∀ σ H Q, tD X.K (ev cl (.comp elt p it own)) σ H Q → tLc (tI X.K (evI cl it)) (tG X.K p) tYes (tK X.K fun ρ => keepS (ev cl elt ρ)) own σ H Q := by
  refine lc_any (m := fun ρ => (keepS (ev cl elt ρ)).map fun q => (some q.1, q.2)) hp (fun σ H Q ⟨S, F, ρ, r, e, h1, h2⟩ => ?_) fun ρ r h => ?_
  · obtain ⟨q, e1, rfl⟩ := mapS h1
    unfold tM tYes
    simp only [if_true]
    exact ⟨S, F, ρ, q, e, e1, fun v H' F' p1 => h2 _ _ _ p1.go p1.rep⟩
  · simp only [ev] at h
    obtain ⟨q, e1, h1⟩ := bindS h
    obtain ⟨c1, h1⟩ := iteS h1
    obtain ⟨c1, c2⟩ := and2 c1
    obtain ⟨z, e2, rfl⟩ := mapS h1
    refine ⟨q, z, e1, of_decide_eq_true c1, c2, ?_, rfl⟩
    rw [← e2]
    congr 1
    funext ρ x
    cases bind p (.sh, x) ρ with
    | none => rfl
    | some ρ2 =>
      show Option.map _ (Option.map _ _) = Option.map _ _
      rw [Option.map_map]
      rfl
theorem compIf_w {it : It} {p : Pat} {own : List Nat} {elt c : E} (hp : ∀ i ∈ slots p, i ∈ own) :
    ∀ σ H Q, tD X.K (ev cl (.compIf elt p it own c)) σ H Q → tLc (tI X.K (evI cl it)) (tG X.K p) (tT X.K (tv cl c)) (tK X.K fun ρ => keepS (ev cl elt ρ)) own σ H Q := by
  refine lc_any (m := fun ρ => (tv cl c ρ).bind fun t => if t.1 = true then (keepS (ev cl elt t.2)).map fun q => (some q.1, q.2) else some (none, t.2)) hp (fun σ H Q ⟨S, F, ρ, r, e, h1, h2⟩ => ?_) fun ρ r h => ?_
  · obtain ⟨t, e1, h1⟩ := bindS h1
    refine ⟨S, F, ρ, t, e, e1, fun H1 F1 g1 => ?_⟩
    cases ht : t.1 with
    | true =>
      rw [ht, if_pos rfl] at h1
      obtain ⟨q, e2, rfl⟩ := mapS h1
      rw [if_pos rfl]
      exact ⟨S, F1, t.2, q, g1.env, e2, fun v H' F' p1 => h2 _ _ _ (g1.trans p1.go) p1.rep⟩
    | false =>
      rw [ht, if_neg (by decide)] at h1
      cases h1
      rw [if_neg (by decide)]
      exact h2 none H1 F1 g1 trivial
  · simp only [ev] at h
    obtain ⟨q, e1, h1⟩ := bindS h
    obtain ⟨c1, h1⟩ := iteS h1
    obtain ⟨c1, c2⟩ := and2 c1
    obtain ⟨z, e2, rfl⟩ := mapS h1
    refine ⟨q, z, e1, of_decide_eq_true c1, c2, ?_, rfl⟩
    rw [← e2]
    congr 1
    funext ρ x
    cases bind p (.sh, x) ρ with
    | none => rfl
    | some ρ2 =>
      show Option.map _ (Option.bind (tv cl c ρ2) _) = ((ev cl c ρ2).bind tst).bind _
      unfold tv
      cases (ev cl c ρ2).bind tst with
      | none => rfl
      | some t =>
        show Option.map _ (if t.1 = true then _ else _) = if t.1 = true then _ else _
        cases t.1 with
        | true =>
          rw [if_pos rfl, if_pos rfl, Option.map_map]
          rfl
        | false => rfl
end
end Mini

end
section
set_option Elab.async false
set_option linter.all false
set_option maxRecDepth 100000
set_option maxHeartbeats 4000000
/-! Mini, part 16s: the draws' record, the script. -/
namespace Mini
open PySem PySem.Spec PyProof.Rows L2
section
variable {K : PySem.W.Frag} {W : Addr → Prop} {H : Hp}
/-- a record's data and its objects -/
theorem SlotRep.rcd {v : V} {d : Dt} {A : List Addr} (r : SlotRep K W H .src v d A) (ht : ∀ ds, d ≠ .list ds) : ∃ a c ns l m t, v = .ref a ∧ d = srcD ns l m t ∧ H a = some (.dK (srcKvs c l m t)) ∧ H c = some (.lst (ns.map .int)) ∧ a ≠ c ∧ A = [a, c] := by
  cases r with
  | src h1 h2 h3 => exact ⟨_, _, _, _, _, _, rfl, rfl, h1, h2, h3, rfl⟩
  | scr _ => exact absurd rfl (ht _)
theorem allI_map (ns : List Int) : allI (ns.map .int) = some ns := by
  induction ns with
  | nil => rfl
  | cons n ns ih =>
    unfold allI at ih ⊢
    simp only [List.map_cons, List.mapM_cons, ih]
    rfl
theorem getF_src {k : Str} {ns : List Int} {l m t : Int} {v : Int} {c : Addr} (h : getF k (srcD ns l m t) = some v) : valV (srcKvs c l m t) (.inr k : Key) = some (.int v) := by
  have h : (if k = "left" then some l else if k = "mixed" then some m else if k = "turn" then some t else none) = some v := h
  split at h
  · rename_i e
    cases h
    subst e
    rfl
  · split at h
    · rename_i e
      cases h
      subst e
      rfl
    · split at h
      · rename_i e
        cases h
        subst e
        rfl
      · cases h
theorem putF_src {k : Str} {ns : List Int} {l m t v : Int} {d' : Dt} {c : Addr} (h : putF k v (srcD ns l m t) = some d') : ∃ l' m' t', d' = srcD ns l' m' t' ∧ putK (srcKvs c l m t) (.inr k : Key) (.int v) = srcKvs c l' m' t' := by
  have h : (if k = "left" then some (srcD ns v m t) else if k = "mixed" then some (srcD ns l v t) else if k = "turn" then some (srcD ns l m v) else none) = some d' := h
  split at h
  · rename_i e
    cases h
    subst e
    exact ⟨_, _, _, rfl, rfl⟩
  · split at h
    · rename_i e
      cases h
      subst e
      exact ⟨_, _, _, rfl, rfl⟩
    · split at h
      · rename_i e
        cases h
        subst e
        exact ⟨_, _, _, rfl, rfl⟩
      · cases h
theorem getF_rec {k : Str} {d : Dt} {v : Int} (h : getF k d = some v) : ∀ ds, d ≠ .list ds := fun ds e => by
  subst e
  cases h
theorem putF_rec {k : Str} {d d' : Dt} {v : Int} (h : putF k v d = some d') : ∀ ds, d ≠ .list ds := fun ds e => by
  subst e
  cases h
end
section
variable {X : Cx} {cl : CallS} {N : List Str} {sc st : Scope}
theorem pe_fl_ (g : Gd cl N sc st X) {i : Nat} {k : Str} {n : Expr} {kk : Nat} {p pos : Pos} (hn : chkNm N sc i n = true) : PE X (.Subscript n (.Constant (.str k) kk p) pos) (tD X.K (ev cl (.fl i k))) :=
  pe_w (pe_ix ix_dict (pe_nm g hn) pe_str fun _ _ => rfl) fun σ H Q ⟨S, F, ρ, r, e, h1, h2⟩ => by
    simp only [ev] at h1
    split at h1
    · rename_i d hr
      obtain ⟨v, hv, rfl⟩ := mapS h1
      obtain ⟨u, hu, sr⟩ := e.slot i _ _ hr
      obtain ⟨a, c, ns, l, m, t, rfl, rfl, ha, hc, hac, _⟩ := sr.rcd (getF_rec hv)
      refine ⟨_, hu, a, .int v, rfl, ?_, by have := g.room; omega, h2 _ H F [] ((Go.refl e).shared rfl)⟩
      rw [← getF_src (c := c) hv]
      exact DGet.k (k := .inr k) ha
    · cases h1
theorem pi_scr_ (g : Gd cl N sc st X) {i : Nat} {n tg : Expr} (hn : chkNm N sc i n = true) : PI X tg n (tI X.K (evI cl (.scr i))) := by
  refine ⟨fun pins s σ H R I hw => ?_⟩
  obtain ⟨S, F, ρ, r, e, h1, h2⟩ := hw
  simp only [evI] at h1
  split at h1
  · rename_i ds hr
    cases h1
    obtain ⟨u, hu, sr⟩ := e.slot i _ _ hr
    have key : ∃ (a : Addr) (ns : List Int), u = .ref a ∧ ds = ns.map PyData.int ∧ ((∃ o, H a = some (.frz o (.lst (ns.map .int)))) ∨ LsK X.K a (ns.map .int)) := by
      generalize F i = A at sr
      generalize hd : PyData.list ds = d at sr
      cases sr with
      | src _ _ _ => cases hd
      | scr h => cases hd; exact ⟨_, _, rfl, rfl, h⟩
    obtain ⟨a, ns, rfl, rfl, hf⟩ := key
    have sq : ∀ H', (∀ b o, H b = some o → ¬ Wt S F b → H' b = some o) → SqL X.K H' a (ns.map .int) := fun H' kp => by
      rcases hf with ⟨o, h⟩ | ⟨o, its, n, k1, k2, k3, k4, k5, k6⟩
      · refine .inl (.inr ⟨o, kp _ _ h fun z => ?_⟩)
        rcases e.wt a z with ⟨_, q⟩ | ⟨_, q⟩ <;> (rw [h] at q; cases q)
      · exact .inr ⟨o, its, n, k1, k2, k3, k4, k5, k6⟩
    refine (pi_list (pe_nm g hn)).run pins s σ H R I ⟨_, hu, a, rfl, ⟨_, sq H fun _ _ e _ => e⟩, h2 _ H F (Go.refl e) ⟨fun i' H' hi kp => ⟨_, .int (ns[i']'(by simpa using hi)), sq H' kp, by simp at hi; simp [hi]⟩, fun H' kp => ⟨_, sq H' kp, by simp⟩, fun i' H' x H'' hi kp y => ?_⟩⟩
    obtain ⟨rfl, y⟩ := y
    have hi' : i' < ns.length := by simpa using hi
    have hx := y _ (sq _ kp)
    rw [List.getElem?_map, List.getElem?_eq_getElem hi'] at hx
    cases hx
    exact ⟨.int ns[i'], by simp [hi'], same_refl, fun W' _ _ => rfl⟩
  · cases h1
/-- a new record -/
theorem pe_mkS_ (g : Gd cl N sc st X) {c m : E} {x y : Expr} {j1 j2 j3 j4 j5 j6 : Nat} {p1 p2 p3 p4 p5 p6 pos : Pos} (hc : PE X x (tD X.K (ev cl c))) (hm : PE X y (tD X.K (ev cl m))) :
    PE X (.Dict [some (.Constant (.str "cells") j1 p1), some (.Constant (.str "left") j2 p2), some (.Constant (.str "mixed") j3 p3), some (.Constant (.str "turn") j4 p4)] [x, .Constant (.int 1) j5 p5, y, .Constant (.int 0) j6 p6] pos) (tD X.K (ev cl (.mkS c m))) :=
  pe_w (pe_disp (pps_cons pe_str hc (pps_cons pe_str pe_int (pps_cons pe_str (pe_k hm) (pps_cons pe_str pe_int pps_nil)))) rfl rfl (by simp) (by simp)) fun σ H Q ⟨S, F, ρ, r, e, h1, h2⟩ => by
    simp only [ev] at h1
    obtain ⟨q, e1, h1⟩ := bindS h1
    split at h1
    · rename_i ds hq
      obtain ⟨ns, hns, h1⟩ := bindS h1
      obtain ⟨q2, e2, h1⟩ := bindS h1
      split at h1
      · rename_i k hk
        cases h1
        intro p hp
        have e0 := e.grow hp (o := .dK []) (.inr ⟨_, upd_same⟩)
        have sm := same_upd (o := .dK []) hp
        show tD X.K (ev cl c) σ (upd H p (.dK [])) _
        refine ⟨_, F, ρ, q, e0, e1, fun v H1 F1 A1 q1 => ?_⟩
        show tK X.K (fun ρ => keepS (ev cl m ρ)) σ H1 _
        refine ⟨addS (addS S [p]) A1, F1, q.2, q2, q1.env, e2, fun u H2 F2 q3 => ?_⟩
        show H2 p = some (.dK []) ∧ _
        -- the list of cells
        obtain ⟨⟨fl, d⟩, ρ1⟩ := q
        cases hq
        have lv : ∃ cA xs, v = .ref cA ∧ A1 = [cA] ∧ H1 cA = some (.lst xs) ∧ xs = ns.map V.int := by
          cases q1.res with
          | slot _ sr =>
            cases sr with
            | lst h h' => exact ⟨_, _, rfl, rfl, h, h'.ints hns⟩
        obtain ⟨cA, xs, rfl, rfl, hcl, rfl⟩ := lv
        have hS : ∀ b, addS (addS S [p]) [cA] b → ∀ i, b ∉ F1 i := fun b hb i hi => q1.env.ext i b hi hb
        have hp1 : H1 p = some (.dK []) := q1.fr.keep p _ upd_same fun i hi => e0.ext i p hi (.inr (List.mem_singleton.mpr rfl))
        have hp2 : H2 p = some (.dK []) := q3.go.fr.keep p _ hp1 (hS p (.inl (.inr (List.mem_singleton.mpr rfl))))
        have hc2 : H2 cA = some (.lst (ns.map .int)) := q3.go.fr.keep cA _ hcl (hS cA (.inr (List.mem_singleton.mpr rfl)))
        have hne : p ≠ cA := fun z => by rw [← z, hp2] at hc2; cases hc2
        have hu : u = .int k := by
          have := q3.rep
          rw [hk] at this
          exact this
        refine ⟨hp2, srcKvs cA 1 k 0, by rw [hu]; rfl, by simp [srcKvs], ?_⟩
        have hmerge : mergeK [] (srcKvs cA 1 k 0) = srcKvs cA 1 k 0 := rfl
        rw [hmerge]
        have e4 : EnvOk X.K (addS S [p, cA]) F2 q2.2 σ (upd H2 p (.dK (srcKvs cA 1 k 0))) := by
          have e3 := q3.go.env.putS (a := p) (o := .dK (srcKvs cA 1 k 0)) (.inl (.inr (List.mem_singleton.mpr rfl))) (.inr ⟨_, upd_same⟩)
          refine e3.weak fun a z => ?_
          rcases z with z | z
          · exact .inl (.inl z)
          · rcases List.mem_cons.mp z with z | z
            · rw [z]; exact .inl (.inr (List.mem_singleton.mpr rfl))
            · exact .inr z
        have none_of : ∀ b, (∃ j, b ∈ F j) ∨ upd H p (.dK []) b = none → (∃ j, b ∈ F j) ∨ H b = none := fun b z => z.imp id fun z => by
          by_cases hb : b = p
          · subst hb; exact hp
          · rw [upd_ne hb] at z; exact z
        refine h2 _ _ F2 [p, cA] ⟨e4, .slot rfl (.src upd_same (by rw [upd_ne (Ne.symm hne)]; exact hc2) hne), ?_, fun i => ?_, fun a ha => ?_, fun a ha => ?_⟩
        · refine ⟨fun b o hb n => ?_, fun i b hb => ?_, fun b hb => ?_⟩
          · rw [upd_ne (ne_of_none hb hp)]
            refine q3.go.fr.keep b o (q1.fr.keep b o (sm b o hb) n) fun i hi => ?_
            rcases q1.fr.new i b hi with ⟨j, z⟩ | z
            · exact n j z
            · rw [sm b o hb] at z; cases z
          · rcases q3.go.fr.new i b hb with ⟨j, z⟩ | z
            · exact none_of b (q1.fr.new j b z)
            · cases hH : H b with
              | none => exact .inr rfl
              | some o => exact absurd z (q1.fr.there b (by rw [sm b o hH]; exact Option.some_ne_none _))
          · have hbp : b ≠ p := fun z => hb (by rw [z]; exact hp)
            rw [upd_ne hbp]
            refine q3.go.fr.there b (q1.fr.there b ?_)
            rw [upd_ne hbp]
            exact hb
        · rcases q3.go.sub i with z | z
          · rw [z]; exact q1.sub i
          · exact .inr z
        · rcases List.mem_cons.mp ha with z | z
          · rw [z]; exact .inr hp
          · rw [List.mem_singleton.mp z]; exact none_of cA (q1.new cA (List.mem_singleton.mpr rfl))
        · rcases List.mem_cons.mp ha with z | z
          · rw [z]; exact fun z => e.wfree hp (.inl z)
          · rw [List.mem_singleton.mp z]; exact fun z => q1.apart cA (List.mem_singleton.mpr rfl) (.inl z)
      · cases h1
    · cases h1
end
end Mini

end
section
set_option Elab.async false
set_option linter.all false
set_option maxRecDepth 100000
set_option maxHeartbeats 4000000
/-! Mini, part 17: every checked expression does what its meaning tells. -/
namespace Mini
open PySem PySem.Spec PyProof.Rows L2
section
variable {X : Cx} {cl : CallS} {N : List Str} {sc st : Scope}
theorem pw_of {op : BoolOp} {vs : List Expr} {pos : Pos} {t : TT} (h : PT X (.BoolOp op vs pos) t) : PW X (.BoolOp op vs pos) t := ⟨fun wh pins s σ H Q I q => h.run pins s σ H Q I q⟩
theorem notSet_fold {e : Expr} (h : ∀ es k p, e ≠ .Set es k p) (env : Env) : ∀ x, foldedSetIterable e env x = pure x := by
  intro x
  cases e <;> first | rfl | exact absurd rfl (h _ _ _)
/-- both forms -/
def Snd (cl : CallS) (X : Cx) (x : Expr) (e : E) : Prop := PE X x (tD X.K (ev cl e)) ∧ PT X x (tT X.K (tv cl e))
theorem Snd.of {x : Expr} {e : E} (h : PE X x (tD X.K (ev cl e))) (he : ∀ whole, isTrue x X.env whole = (do let v ← whole; standAt x.pos; holding [v] (truthy v))) : Snd cl X x e := ⟨h, pt_truth_ he h⟩
theorem chkI_set {it : It} {x tg : Expr} (h : chkI N sc it x tg = true) : ∀ es k p, x ≠ .Set es k p := by
  intro es k p e
  subst e
  cases it with
  | e a => rw [show chkI N sc (.e a) (.Set es k p) tg = chkE N sc a (.Set es k p) from rfl, chkE_set] at h; cases h
  | _ => cases h
theorem own_map {own : List Nat} : (ownOf N own).map (·.2) = own := by
  unfold ownOf
  induction own with
  | nil => rfl
  | cons i is ih =>
    show i :: List.map _ (List.map _ is) = _
    rw [ih]
theorem and4 {a b c d : Bool} (h : (a && b && c && d) = true) : a = true ∧ b = true ∧ c = true ∧ d = true := by
  cases a <;> cases b <;> cases c <;> cases d <;> simp_all
theorem all_own {p : Pat} {own : List Nat} (h : (slots p).all (own.contains ·) = true) : ∀ i ∈ slots p, i ∈ own := fun i hi => by
  have := List.all_eq_true.mp h i hi
  simpa using this
theorem noAny : ∀ (es : Es) {l : List Expr}, chkA N sc es l = true → ∀ {env : Env} (pos : Pos), (backTo pos (starEach l env)).any (·.1) = false
  | .nil, [], _, _, _ => rfl
  | .nil, _ :: _, h, _, _ => by cases h
  | .cons a r, [], h, _, _ => by cases a <;> cases h
  | .star a r, l, h, _, _ => by cases l <;> cases h
  | .cons a r, x :: xs, h, env, pos => by
    have key : starEach (x :: xs) env = (false, eval x env) :: starEach xs env ∧ chkA N sc r xs = true := by
      by_cases hio : ∃ i, a = .io i
      · obtain ⟨i, rfl⟩ := hio
        obtain ⟨h1, h2⟩ := and2 (show (chkNm N sc i x && chkA N sc r xs) = true from h)
        exact ⟨(by cases x <;> first | rfl | cases h1), h2⟩
      · have h' : (chkE N sc a x && chkA N sc r xs) = true := by
          cases a <;> first | exact h | exact absurd ⟨_, rfl⟩ hio
        obtain ⟨h1, h2⟩ := and2 h'
        exact ⟨noStar h1 _ _, h2⟩
    have ih := noAny r key.2 (env := env) pos
    rw [key.1]
    unfold backTo at ih ⊢
    simpa using ih
mutual
theorem snd_E : ∀ (e : E) {sc st : Scope} {X : Cx} {x : Expr}, Gd cl N sc st X → chkE N sc e x = true → Snd cl X x e
  | .v i, sc, st, X, x, g, h => by
    have h' : chkNm N sc i x = true := by cases x <;> exact h
    cases x with
    | Name y p => exact .of (pe_w (pe_nm g h') w_v) fun _ => rfl
    | _ => cases h'
  | .sh i, sc, st, X, x, g, h => by
    have h' : chkNm N sc i x = true := by cases x <;> exact h
    cases x with
    | Name y p => exact .of (pe_w (pe_nm g h') w_sh) fun _ => rfl
    | _ => cases h'
  | .mv i, sc, st, X, x, g, h => by
    have h' : chkNm N sc i x = true := by cases x <;> exact h
    cases x with
    | Name y p => exact .of (pe_w (pe_nm g h') w_mv) fun _ => rfl
    | _ => cases h'
  | .gl n d, _, _, _, x, g, h => by cases x <;> cases h
  | .int i, sc, st, X, x, g, h => by
    cases x with
    | Constant c k p =>
      cases c with
      | int j =>
        have h := of_decide_eq_true (show decide (i = j) = true from h)
        subst h
        exact .of (pe_w pe_int (w_c (fun _ => rfl) fun _ _ => rfl)) fun _ => rfl
      | _ => cases h
    | _ => cases h
  | .str i, sc, st, X, x, g, h => by
    cases x with
    | Constant c k p =>
      cases c with
      | str j =>
        have h := of_decide_eq_true (show decide (i = j) = true from h)
        subst h
        exact .of (pe_w pe_str (w_c (fun _ => rfl) fun _ _ => rfl)) fun _ => rfl
      | _ => cases h
    | _ => cases h
  | .bl i, sc, st, X, x, g, h => by
    cases x with
    | Constant c k p =>
      cases c with
      | bool j =>
        have h : i = j := eq_of_beq (show (i == j) = true from h)
        subst h
        exact .of (pe_w pe_bl (w_c (fun _ => rfl) fun _ _ => rfl)) fun _ => rfl
      | _ => cases h
    | _ => cases h
  | .non, sc, st, X, x, g, h => by
    cases x with
    | Constant c k p =>
      cases c with
      | none => exact .of (pe_w pe_non (w_c (fun _ => rfl) fun _ _ => rfl)) fun _ => rfl
      | _ => cases h
    | _ => cases h
  | .tup es, sc, st, X, x, g, h => by
    cases x with
    | Tuple l k p => exact .of (pe_tup_ (snd_L es g h)) fun _ => rfl
    | _ => cases h
  | .lst es, sc, st, X, x, g, h => by
    cases x with
    | List l p => exact .of (pe_lst_ (snd_L es g h)) fun _ => rfl
    | _ => cases h
  | .bin o a b, sc, st, X, x, g, h => by
    cases x with
    | BinOp y op z p =>
      obtain ⟨h1, h2, h3⟩ := and3 (show (decide (op = boOp o) && chkE N sc a y && chkE N sc b z) = true from h)
      have h1 := of_decide_eq_true h1
      subst h1
      exact .of (pe_bin_ (snd_E a g h2).1 (snd_E b g h3).1) fun _ => rfl
    | _ => cases h
  | .neg a, sc, st, X, x, g, h => by
    cases x with
    | UnaryOp op y p =>
      cases op with
      | USub => exact .of (pe_neg_ (snd_E a g h).1) fun _ => rfl
      | _ => cases h
    | _ => cases h
  | .not a, sc, st, X, x, g, h => by
    cases x with
    | UnaryOp op y p =>
      cases op with
      | Not =>
        have q := snd_E a g (x := y) h
        exact ⟨pe_not_ q.1, pt_not_ q.2⟩
      | _ => cases h
    | _ => cases h
  | .cmp o a b, sc, st, X, x, g, h => by
    cases x with
    | Compare y ops zs p =>
      cases ops with
      | nil => cases h
      | cons op ops =>
        cases ops with
        | cons _ _ => cases zs <;> cases h
        | nil =>
          cases zs with
          | nil => cases h
          | cons z zs =>
            cases zs with
            | cons _ _ => cases h
            | nil =>
              obtain ⟨h1, h2, h3⟩ := and3 (show (decide (op = coOp o) && chkE N sc a y && chkE N sc b z) = true from h)
              have h1 := of_decide_eq_true h1
              subst h1
              have q := snd_E a g h2
              have q' := snd_E b g h3
              exact ⟨pe_cmp_ g (noBehind h3 _) q.1 q'.1, pt_cmp_ g (noBehind h3 _) q.1 q'.1⟩
    | _ => cases h
  | .chain o o' a b c, sc, st, X, x, g, h => by
    cases x with
    | Compare y ops zs p =>
      cases ops with
      | nil => cases h
      | cons op ops =>
        cases ops with
        | nil => cases h
        | cons op2 ops =>
          cases ops with
          | cons _ _ => cases h
          | nil =>
            cases zs with
            | nil => cases h
            | cons z zs =>
              cases zs with
              | nil => cases h
              | cons z2 zs =>
                cases zs with
                | cons _ _ => cases h
                | nil =>
                  have h : (decide (op = coOp o) && decide (op2 = coOp o') && chkE N sc a y && chkE N sc b z && chkE N sc c z2) = true := h
                  obtain ⟨h, h5⟩ := and2 h
                  obtain ⟨h1, h2, h3, h4⟩ := and4 h
                  have h1 := of_decide_eq_true h1
                  have h2 := of_decide_eq_true h2
                  subst h1 h2
                  exact pe_chain_ g (noBehind h5 _) (snd_E a g h3).1 (snd_E b g h4).1 (snd_E c g h5).1
    | _ => cases h
  | .and a b, sc, st, X, x, g, h => by
    cases x with
    | BoolOp op vs p =>
      cases op with
      | Or => cases vs with
        | nil => cases h
        | cons y ys => cases ys <;> cases h
      | And =>
        cases vs with
        | nil => cases h
        | cons y ys =>
          cases ys with
          | nil => cases h
          | cons z r =>
            cases r with
            | nil =>
              obtain ⟨h1, h2⟩ := and2 (show (chkE N sc a y && chkE N sc b z) = true from h)
              have q := snd_E a g h1
              have q' := snd_E b g h2
              exact ⟨pe_and_ q.1 (pe_one q'.1), (pt_and_ q.2 (pw_and1 q'.2)).pt⟩
            | cons z2 r =>
              obtain ⟨h1, h2⟩ := and2 (show (chkE N sc a y && chkE N sc b (.BoolOp .And (z :: z2 :: r) p)) = true from h)
              have q := snd_E a g h1
              have q' := snd_E b g h2
              exact ⟨pe_and_ q.1 q'.1, (pt_and_ q.2 (pw_of q'.2)).pt⟩
    | _ => cases h
  | .or a b, sc, st, X, x, g, h => by
    cases x with
    | BoolOp op vs p =>
      cases op with
      | And => cases vs with
        | nil => cases h
        | cons y ys => cases ys <;> cases h
      | Or =>
        cases vs with
        | nil => cases h
        | cons y ys =>
          cases ys with
          | nil => cases h
          | cons z r =>
            cases r with
            | nil =>
              obtain ⟨h1, h2⟩ := and2 (show (chkE N sc a y && chkE N sc b z) = true from h)
              have q := snd_E a g h1
              have q' := snd_E b g h2
              exact ⟨pe_or_ q.1 (pe_one q'.1), (pt_or_ q.2 (pw_or1 q'.2)).pt⟩
            | cons z2 r =>
              obtain ⟨h1, h2⟩ := and2 (show (chkE N sc a y && chkE N sc b (.BoolOp .Or (z :: z2 :: r) p)) = true from h)
              have q := snd_E a g h1
              have q' := snd_E b g h2
              exact ⟨pe_or_ q.1 q'.1, (pt_or_ q.2 (pw_of q'.2)).pt⟩
    | _ => cases h
  | .ite c a b, sc, st, X, x, g, h => by
    cases x with
    | IfExp y z z2 p =>
      obtain ⟨h1, h2, h3⟩ := and3 (show (chkE N sc c y && chkE N sc a z && chkE N sc b z2) = true from h)
      have q := snd_E c g h1
      have q1 := snd_E a g h2
      have q2 := snd_E b g h3
      exact ⟨pe_ite_ q.2 q1.1 q2.1, pt_ite_ q.2 q1.2 q2.2⟩
    | _ => cases h
  | .idx a b, sc, st, X, x, g, h => by
    cases x with
    | Subscript y z p =>
      have h : (chkE N sc a y && chkE N sc b z) = true := by cases z <;> exact h
      obtain ⟨h1, h2⟩ := and2 h
      exact .of (pe_idx_ g (plainIx h2) (snd_E a g h1).1 (snd_E b g h2).1) fun _ => rfl
    | _ => cases h
  | .slL a b, sc, st, X, x, g, h => by
    cases x with
    | Subscript y z p =>
      cases z with
      | Slice lo hi sp p2 =>
        cases lo <;> cases hi <;> cases sp <;> first | (cases h; done) | skip
        obtain ⟨h1, h2⟩ := and2 (show (chkE N sc a y && chkE N sc b _) = true from h)
        exact .of (pe_slL_ (snd_E a g h1).1 (snd_E b g h2).1) fun _ => rfl
      | _ => cases h
    | _ => cases h
  | .slU a b, sc, st, X, x, g, h => by
    cases x with
    | Subscript y z p =>
      cases z with
      | Slice lo hi sp p2 =>
        cases lo <;> cases hi <;> cases sp <;> first | (cases h; done) | skip
        obtain ⟨h1, h2⟩ := and2 (show (chkE N sc a y && chkE N sc b _) = true from h)
        exact .of (pe_slU_ (snd_E a g h1).1 (snd_E b g h2).1) fun _ => rfl
      | _ => cases h
    | _ => cases h
  | .slLU a b c, sc, st, X, x, g, h => by
    cases x with
    | Subscript y z p =>
      cases z with
      | Slice lo hi sp p2 =>
        cases lo <;> cases hi <;> cases sp <;> first | (cases h; done) | skip
        obtain ⟨h1, h2, h3⟩ := and3 (show (chkE N sc a y && chkE N sc b _ && chkE N sc c _) = true from h)
        exact .of (pe_slLU_ (snd_E a g h1).1 (snd_E b g h2).1 (snd_E c g h3).1) fun _ => rfl
      | _ => cases h
    | _ => cases h
  | .rev a, sc, st, X, x, g, h => by
    unfold chkE at h
    split at h <;> rename_i hh <;> first | (cases hh; done) | (cases h; done) | skip
    cases hh
    exact .of (pe_rev_ (snd_E a g h).1) fun _ => rfl
  | .b1 f a, sc, st, X, x, g, h => by
    cases x with
    | Call n as kws p =>
      cases as with
      | nil => cases h
      | cons y ys =>
        cases ys with
        | cons _ _ => cases h
        | nil =>
          cases kws with
          | cons _ _ => cases h
          | nil =>
            obtain ⟨h1, h2⟩ := and2 (show (chkGl sc (b1N f) n && chkE N sc a y) = true from h)
            exact .of (pe_b1_ g h1 (noStar h2) (snd_E a g h2).1) fun _ => rfl
    | _ => cases h
  | .b2 f a b, sc, st, X, x, g, h => by
    cases x with
    | Call n as kws p =>
      cases as with
      | nil => cases h
      | cons y ys =>
        cases ys with
        | nil => cases h
        | cons z zs =>
          cases zs with
          | cons _ _ => cases h
          | nil =>
            cases kws with
            | cons _ _ => cases h
            | nil =>
              obtain ⟨h1, h2, h3⟩ := and3 (show (chkGl sc (b2N f) n && chkE N sc a y && chkE N sc b z) = true from h)
              exact .of (pe_b2_ g h1 (noStar h2) (noStar h3) (snd_E a g h2).1 (snd_E b g h3).1) fun _ => rfl
    | _ => cases h
  | .m1 _ _ _, _, _, _, x, g, h => by cases x <;> cases h
  | .fl i k, sc, st, X, x, g, h => by
    unfold chkE at h
    split at h <;> rename_i hh <;> first | (cases hh; done) | (cases h; done) | skip
    cases hh
    obtain ⟨h1, h2⟩ := and2 h
    have h2 := of_decide_eq_true h2
    subst h2
    exact .of (pe_fl_ g h1) fun _ => rfl
  | .mkS c m, sc, st, X, x, g, h => by
    unfold chkE at h
    split at h <;> rename_i hh <;> first | (cases hh; done) | (cases h; done) | skip
    cases hh
    simp only [Bool.and_eq_true, decide_eq_true_eq] at h
    obtain ⟨⟨⟨⟨⟨⟨⟨h1, h2⟩, h3⟩, h4⟩, h5⟩, h6⟩, h7⟩, h8⟩ := h
    subst h1 h2 h3 h4 h5 h6
    exact .of (pe_mkS_ g (snd_E c g h7).1 (snd_E m g h8).1) fun _ => rfl
  | .get2 _ _ _, _, _, _, x, g, h => by cases x <;> cases h
  | .dict _, _, _, _, x, g, h => by cases x <;> cases h
  | .io _, _, _, _, x, g, h => by cases x <;> cases h
  | .call f as, sc, st, X, x, g, h => by
    cases x with
    | Call n l kws p =>
      cases l with
      | nil => cases h
      | cons y ys =>
        cases kws with
        | cons _ _ => cases h
        | nil =>
          obtain ⟨h1, h2⟩ := and2 (show (chkGl sc f n && chkA N sc as (y :: ys)) = true from h)
          obtain ⟨k1, k2, k3⟩ := snd_A as g h2
          exact .of (pe_call_ g h1 k1 (k2 y ys rfl) (k3 y ys rfl p)) fun _ => rfl
    | _ => cases h
  | .app i a, sc, st, X, x, g, h => by
    unfold chkE at h
    split at h <;> rename_i hh <;> first | (cases hh; done) | (cases h; done) | skip
    cases hh
    obtain ⟨h1, h2, h3, h4⟩ := and4 h
    have h2 := of_decide_eq_true h2
    subst h2
    exact .of (pe_app_ g h1 h3 (noStar h4) (snd_E a g h4).1) fun _ => rfl
  | .ext i a, sc, st, X, x, g, h => by
    unfold chkE at h
    split at h <;> rename_i hh <;> first | (cases hh; done) | (cases h; done) | skip
    cases hh
    obtain ⟨h1, h2, h3, h4⟩ := and4 h
    have h2 := of_decide_eq_true h2
    subst h2
    exact .of (pe_ext_ g h1 h3 (noStar h4) (snd_E a g h4).1) fun _ => rfl
  | .pop i, sc, st, X, x, g, h => by
    unfold chkE at h
    split at h <;> rename_i hh <;> first | (cases hh; done) | (cases h; done) | skip
    cases hh
    obtain ⟨h1, h2, h3⟩ := and3 h
    have h2 := of_decide_eq_true h2
    subst h2
    exact .of (pe_pop_ g h1 h3) fun _ => rfl
  | .lrg a b, sc, st, X, x, g, h => by
    unfold chkE at h
    split at h <;> rename_i hh <;> first | (cases hh; done) | (cases h; done) | skip
    cases hh
    obtain ⟨h1, h2, h3, h4⟩ := and4 h
    exact .of (pe_lrg_ g h1 h2 (noStar h3) (noStar h4) (snd_E a g h3).1 (snd_E b g h4).1) fun _ => rfl
  | .comp elt p it own, sc, st, X, x, g, h => by
    unfold chkE at h
    split at h <;> rename_i hh <;> first | (cases hh; done) | (cases h; done) | skip
    cases hh
    obtain ⟨h, h5⟩ := and2 h
    obtain ⟨h1, h2, h3, h4⟩ := and4 h
    refine .of (pe_w (pe_lc (g := tG X.K p) (tt := tYes) (te := tK X.K fun ρ => keepS (ev cl elt ρ)) g.calm (by rw [g.eN]; exact g.nd) (snd_I it g h5) (by rw [g.eN, g.es]; exact blkOk_by h1) (fun s H C cs fp => pg_ (g.blk s H _ cs C fp) p _ h3) (fun s H C cs fp => pts_nil) (fun s H C cs fp => pe_k (snd_E elt (g.blk s H _ cs C fp) h4).1) (notSet_fold (chkI_set h5) _)) fun σ H Q q => ?_) fun _ => rfl
    rw [own_map]
    exact comp_w (all_own h2) σ H Q q
  | .compIf elt p it own c, sc, st, X, x, g, h => by
    unfold chkE at h
    split at h <;> rename_i hh <;> first | (cases hh; done) | (cases h; done) | skip
    cases hh
    obtain ⟨h, h6⟩ := and2 h
    obtain ⟨h, h5⟩ := and2 h
    obtain ⟨h1, h2, h3, h4⟩ := and4 h
    refine .of (pe_w (pe_lc (g := tG X.K p) (tt := tT X.K (tv cl c)) (te := tK X.K fun ρ => keepS (ev cl elt ρ)) g.calm (by rw [g.eN]; exact g.nd) (snd_I it g h6) (by rw [g.eN, g.es]; exact blkOk_by h1) (fun s H C cs fp => pg_ (g.blk s H _ cs C fp) p _ h3) (fun s H C cs fp => pts_one (snd_E c (g.blk s H _ cs C fp) h5).2) (fun s H C cs fp => pe_k (snd_E elt (g.blk s H _ cs C fp) h4).1) (notSet_fold (chkI_set h6) _)) fun σ H Q q => ?_) fun _ => rfl
    rw [own_map]
    exact compIf_w (all_own h2) σ H Q q
  | .dcomp k v p it own, sc, st, X, x, g, h => by
    unfold chkE at h
    split at h <;> rename_i hh <;> first | (cases hh; done) | (cases h; done) | skip
    cases hh
    obtain ⟨h, h6⟩ := and2 h
    obtain ⟨h, h5⟩ := and2 h
    obtain ⟨h1, h2, h3, h4⟩ := and4 h
    refine .of (pe_w (pe_dc (g := tG X.K p) (tt := tYes) (tk := tK X.K fun ρ => keepS (ev cl k ρ)) (tv := tK X.K fun ρ => keepS (ev cl v ρ)) g.calm (by rw [g.eN]; exact g.nd) (snd_I it g h6) (by rw [g.eN, g.es]; exact blkOk_by h1) (fun s H C cs fp => pg_ (g.blk s H _ cs C fp) p _ h3) (fun s H C cs fp => pts_nil) (fun s H C cs fp => pe_k (snd_E k (g.blk s H _ cs C fp) h4).1) (fun s H C cs fp => pe_k (snd_E v (g.blk s H _ cs C fp) h5).1) (notSet_fold (chkI_set h6) _)) fun σ H Q q => ?_) fun _ => rfl
    rw [own_map]
    exact dc_any (all_own h2) σ H Q q
theorem snd_L : ∀ (es : Es) {sc st : Scope} {X : Cx} {l : List Expr}, Gd cl N sc st X → chkL N sc es l = true → PA X l (tL X.K (evL cl es))
  | .nil, sc, st, X, l, g, h => by
    cases l with
    | nil => exact pa_nil_
    | cons _ _ => cases h
  | .cons a r, sc, st, X, l, g, h => by
    cases l with
    | nil => cases h
    | cons x xs =>
      have h : (chkE N sc a x && chkL N sc r xs) = true := by cases x <;> exact h
      obtain ⟨h1, h2⟩ := and2 h
      exact pa_cons_ (snd_E a g h1).1 (snd_L r g h2) (noStar h1 _ _)
  | .star a r, sc, st, X, l, g, h => by
    cases l with
    | nil => cases h
    | cons x xs =>
      cases x with
      | Starred y p =>
        obtain ⟨h1, h2⟩ := and2 (show (chkE N sc a y && chkL N sc r xs) = true from h)
        exact pa_star_ (snd_E a g h1).1 (snd_L r g h2)
      | _ => cases h
theorem snd_A : ∀ (es : Es) {sc st : Scope} {X : Cx} {l : List Expr}, Gd cl N sc st X → chkA N sc es l = true → PA X l (tA X.K (evA cl es)) ∧ (∀ x xs, l = x :: xs → starEach (x :: xs) X.env = (false, eval x X.env) :: starEach xs X.env) ∧
    ∀ x xs, l = x :: xs → ∀ pos : Pos, (backTo pos (starEach xs X.env)).any (·.1) = false
  | .nil, sc, st, X, l, g, h => by
    cases l with
    | nil => exact ⟨paA_nil, (fun _ _ e => by cases e), (fun _ _ e => by cases e)⟩
    | cons _ _ => cases h
  | .cons a r, sc, st, X, l, g, h => by
    cases l with
    | nil => cases a <;> cases h
    | cons x xs =>
      by_cases hio : ∃ i, a = .io i
      · obtain ⟨i, rfl⟩ := hio
        obtain ⟨h1, h2⟩ := and2 (show (chkNm N sc i x && chkA N sc r xs) = true from h)
        obtain ⟨k1, k2, k3⟩ := snd_A r g h2
        have hs : ∀ env, starEach (x :: xs) env = (false, eval x env) :: starEach xs env := fun env => by
          cases x <;> first | rfl | cases h1
        refine ⟨paA_io g h1 k1, fun y ys e => by cases e; exact hs _, fun y ys e => ?_⟩
        cases e
        exact noAny r h2
      · have h' : (chkE N sc a x && chkA N sc r xs) = true := by
          cases a <;> first | exact h | exact absurd ⟨_, rfl⟩ hio
        obtain ⟨h1, h2⟩ := and2 h'
        obtain ⟨k1, k2, k3⟩ := snd_A r g h2
        refine ⟨paA_cons (fun i e => hio ⟨i, e⟩) (snd_E a g h1).1 k1 (noStar h1 _ _), fun y ys e => by cases e; exact noStar h1 _ _, fun y ys e => ?_⟩
        cases e
        exact noAny r h2
  | .star a r, sc, st, X, l, g, h => by cases l <;> cases h
theorem snd_I : ∀ (it : It) {sc st : Scope} {X : Cx} {x tg : Expr}, Gd cl N sc st X → chkI N sc it x tg = true → PI X tg x (tI X.K (evI cl it))
  | .e a, sc, st, X, x, tg, g, h => pi_e_ (snd_E a g (show chkE N sc a x = true by cases x <;> exact h)).1
  | .scr i, sc, st, X, x, tg, g, h => pi_scr_ g (show chkNm N sc i x = true by cases x <;> exact h)
  | .rng1 a, sc, st, X, x, tg, g, h => by
    unfold chkI at h
    split at h <;> rename_i hh <;> first | (cases hh; done) | (cases h; done) | skip
    cases hh
    obtain ⟨h1, h2⟩ := and2 h
    exact pi_rng1_ g h1 (noStar h2) (snd_E a g h2).1
  | .rng2 a b, sc, st, X, x, tg, g, h => by
    unfold chkI at h
    split at h <;> rename_i hh <;> first | (cases hh; done) | (cases h; done) | skip
    cases hh
    obtain ⟨h1, h2, h3⟩ := and3 h
    exact pi_rng2_ g h1 (noStar h2) (noStar h3) (snd_E a g h2).1 (snd_E b g h3).1
  | .rng3 a b c, sc, st, X, x, tg, g, h => by
    unfold chkI at h
    split at h <;> rename_i hh <;> first | (cases hh; done) | (cases h; done) | skip
    cases hh
    obtain ⟨h1, h2, h3, h4⟩ := and4 h
    exact pi_rng3_ g h1 (noStar h2) (noStar h3) (noStar h4) (snd_E a g h2).1 (snd_E b g h3).1 (snd_E c g h4).1
  | .enum a, sc, st, X, x, tg, g, h => by
    unfold chkI at h
    split at h <;> rename_i hh <;> first | (cases hh; done) | (cases h; done) | skip
    cases hh
    obtain ⟨h1, h2⟩ := and2 h
    exact pi_enum_ g h1 (noStar h2) (snd_E a g h2).1
  | .zip a b, sc, st, X, x, tg, g, h => by
    unfold chkI at h
    split at h <;> rename_i hh <;> first | (cases hh; done) | (cases h; done) | skip
    cases hh
    obtain ⟨h1, h2, h3⟩ := and3 h
    exact pi_zip_ g h1 (noStar h2) (noStar h3) (snd_E a g h2).1 (snd_E b g h3).1
  | .zip3 _ _ _, _, _, _, x, tg, g, h => by cases x <;> cases h
  | .items _, _, _, _, x, tg, g, h => by cases x <;> cases h
end
end
end Mini

end
section
set_option Elab.async false
set_option linter.all false
set_option maxRecDepth 100000
set_option maxHeartbeats 4000000
/-! Mini, part 18: statements. -/
namespace Mini
open PySem PySem.Spec PyProof.Rows L2
/-- a statement has run: the slots in as may be others -/
structure GoS (K : PySem.W.Frag) (S : Addr → Prop) (F : Fs) (σ : L2.St) (H : Hp) (as : List Nat) (F' : Fs) (σ' : L2.St) (ρ' : En) (H' : Hp) : Prop where
  env : EnvOk K S F' ρ' σ' H'
  fr : Fr F H F' H'
  sub : ∀ i, i ∉ as → (F' i = F i ∨ F' i = []) ∧ σ'[i]? = σ[i]?
structure RtS (K : PySem.W.Frag) (S : Addr → Prop) (F : Fs) (σ : L2.St) (H : Hp) (as : List Nat) (r : Sl) (ρ' : En) (v : V) (F' : Fs) (σ' : L2.St) (H' : Hp) (A : List Addr) : Prop where
  env : EnvOk K (addS S A) F' ρ' σ' H'
  ok : okFl r.1 = true
  res : SlotRep K (Wt (addS S A) F') H' r.1 v r.2 A
  fr : Fr F H F' H'
  sub : ∀ i, i ∉ as → (F' i = F i ∨ F' i = []) ∧ σ'[i]? = σ[i]?
  new : ∀ a ∈ A, (∃ j, a ∈ F j) ∨ H a = none
  apart : ∀ a ∈ A, ¬ S a
/-- the ends that an outcome asks for -/
def Ask (K : PySem.W.Frag) (S : Addr → Prop) (F : Fs) (σ : L2.St) (H : Hp) (as : List Nat) (D : Ends) : Out → Prop
  | .nx ρ' => ∀ F' σ' H', GoS K S F σ H as F' σ' ρ' H' → D.nx σ' H'
  | .bk ρ' => ∀ F' σ' H', GoS K S F σ H as F' σ' ρ' H' → D.bk σ' H'
  | .ct ρ' => ∀ F' σ' H', GoS K S F σ H as F' σ' ρ' H' → D.ct σ' H'
  | .rt r ρ' => ∀ v F' σ' H' A, RtS K S F σ H as r ρ' v F' σ' H' A → D.rt v H'
def tSt (K : PySem.W.Frag) (f : En → Option Out) (as : List Nat) : TS := fun D σ H => ∃ S F ρ o, EnvOk K S F ρ σ H ∧ f ρ = some o ∧ Ask K S F σ H as D o
mutual
def asgS : S → List Nat
  | .asg p _ => slots p
  | .par ps _ => slotss ps
  | .ifs _ a b => asgSs a ++ asgSs b
  | .whl _ b => asgSs b
  | .for_ p _ b => slots p ++ asgSs b
  | _ => []
def asgSs : Ss → List Nat
  | .nil => []
  | .cons s r => asgS s ++ asgSs r
  | .pull _ j r => j :: asgSs r
end
section
variable {K : PySem.W.Frag} {S : Addr → Prop} {F F1 F2 : Fs} {σ σ1 σ2 : L2.St} {H H1 H2 : Hp} {ρ ρ1 ρ2 : En} {as as' bs : List Nat} {D D' : Ends} {o : Out}
theorem GoS.refl (e : EnvOk K S F ρ σ H) : GoS K S F σ H as F σ ρ H := ⟨e, Fr.refl F H, fun _ _ => ⟨.inl rfl, rfl⟩⟩
theorem GoS.of (g : Go K S F σ H F1 ρ1 H1) : GoS K S F σ H as F1 σ ρ1 H1 := ⟨g.env, g.fr, fun i _ => ⟨g.sub i, rfl⟩⟩
theorem sub_trans {i : Nat} (a : (F1 i = F i ∨ F1 i = []) ∧ σ1[i]? = σ[i]?) (b : (F2 i = F1 i ∨ F2 i = []) ∧ σ2[i]? = σ1[i]?) : (F2 i = F i ∨ F2 i = []) ∧ σ2[i]? = σ[i]? := by
  refine ⟨?_, b.2.trans a.2⟩
  rcases b.1 with e | e
  · rw [e]; exact a.1
  · exact .inr e
theorem GoS.trans (a : GoS K S F σ H as F1 σ1 ρ1 H1) (b : GoS K S F1 σ1 H1 as' F2 σ2 ρ2 H2) (h : ∀ i, i ∈ as → i ∈ bs) (h' : ∀ i, i ∈ as' → i ∈ bs) : GoS K S F σ H bs F2 σ2 ρ2 H2 :=
  ⟨b.env, a.fr.trans b.fr, fun i hi => sub_trans (a.sub i fun z => hi (h i z)) (b.sub i fun z => hi (h' i z))⟩
theorem RtS.trans {r : Sl} {v : V} {A : List Addr} (a : GoS K S F σ H as F1 σ1 ρ1 H1) (b : RtS K S F1 σ1 H1 as' r ρ2 v F2 σ2 H2 A) (h : ∀ i, i ∈ as → i ∈ bs) (h' : ∀ i, i ∈ as' → i ∈ bs) : RtS K S F σ H bs r ρ2 v F2 σ2 H2 A :=
  ⟨b.env, b.ok, b.res, a.fr.trans b.fr, fun i hi => sub_trans (a.sub i fun z => hi (h i z)) (b.sub i fun z => hi (h' i z)), fun c hc => by
    rcases b.new c hc with ⟨j, hj⟩ | hn
    · exact a.fr.new j c hj
    · cases q : H c with
      | none => exact .inr rfl
      | some u => exact absurd hn (a.fr.there c (by rw [q]; exact Option.some_ne_none _)), b.apart⟩
/-- from a later place on -/
theorem Ask.later (a : GoS K S F σ H as F1 σ1 ρ1 H1) (h : ∀ i, i ∈ as → i ∈ bs) (h' : ∀ i, i ∈ as' → i ∈ bs) (k : Ask K S F σ H bs D o) : Ask K S F1 σ1 H1 as' D o := by
  cases o with
  | nx ρ' => exact fun F' σ' H' g => k F' σ' H' (a.trans g h h')
  | bk ρ' => exact fun F' σ' H' g => k F' σ' H' (a.trans g h h')
  | ct ρ' => exact fun F' σ' H' g => k F' σ' H' (a.trans g h h')
  | rt r ρ' => exact fun v F' σ' H' A g => k v F' σ' H' A (RtS.trans a g h h')
end
section
variable {X : Cx} {cl : CallS} {N : List Str} {sc : Scope}
theorem ps_w {s : Stmt} {t t' : TS} (h : PS X s t) (w : ∀ D σ H, t' D σ H → t D σ H) : PS X s t' := ⟨fun pins s σ H D I q => h.run pins s σ H D I (w D σ H q)⟩
theorem pss_w {s : List Stmt} {t t' : TS} (h : PSs X s t) (w : ∀ D σ H, t' D σ H → t D σ H) : PSs X s t' := ⟨fun pins s σ H D I q => h.run pins s σ H D I (w D σ H q)⟩
theorem st_nil {fuel : Nat} : PSs X [] (tSt X.K (exs cl fuel .nil) []) := pss_w pss_nil fun D σ H ⟨S, F, ρ, o, e, h, k⟩ => by
  simp only [exs] at h
  cases h
  exact k F σ H (GoS.refl e)
theorem st_cons {fuel : Nat} {s : Mini.S} {r : Ss} {st : Stmt} {rest : List Stmt} (h1 : PS X st (tSt X.K (ex cl fuel s) (asgS s))) (h2 : PSs X rest (tSt X.K (exs cl fuel r) (asgSs r))) : PSs X (st :: rest) (tSt X.K (exs cl fuel (.cons s r)) (asgSs (.cons s r))) :=
  pss_w (pss_cons h1 h2) fun D σ H ⟨S, F, ρ, o, e, h, k⟩ => by
    have i1 : ∀ i, i ∈ asgS s → i ∈ asgSs (.cons s r) := fun i hi => List.mem_append_left _ hi
    have i2 : ∀ i, i ∈ asgSs r → i ∈ asgSs (.cons s r) := fun i hi => List.mem_append_right _ hi
    simp only [exs] at h
    cases e1 : ex cl fuel s ρ with
    | none => rw [e1] at h; cases h
    | some o1 =>
      rw [e1] at h
      refine ⟨S, F, ρ, o1, e, e1, ?_⟩
      cases o1 with
      | nx ρ1 => exact fun F1 σ1 H1 g1 => ⟨S, F1, ρ1, o, g1.env, h, k.later g1 i1 i2⟩
      | bk ρ1 => cases h; exact fun F1 σ1 H1 g1 => k F1 σ1 H1 ⟨g1.env, g1.fr, fun i hi => g1.sub i fun z => hi (i1 i z)⟩
      | ct ρ1 => cases h; exact fun F1 σ1 H1 g1 => k F1 σ1 H1 ⟨g1.env, g1.fr, fun i hi => g1.sub i fun z => hi (i1 i z)⟩
      | rt r1 ρ1 => cases h; exact fun v F1 σ1 H1 A g1 => k v F1 σ1 H1 A ⟨g1.env, g1.ok, g1.res, g1.fr, fun i hi => g1.sub i fun z => hi (i1 i z), g1.new, g1.apart⟩
theorem st_ret {fuel : Nat} {e : E} {x : Expr} {pos : Pos} (h : PE X x (tD X.K (ev cl e))) : PS X (.Return (some x) pos) (tSt X.K (ex cl fuel (.ret e)) []) := ps_w (ps_ret h) fun D σ H ⟨S, F, ρ, o, en, h, k⟩ => by
  simp only [ex] at h
  obtain ⟨r, e1, h⟩ := bindS h
  obtain ⟨c, h⟩ := iteS h
  cases h
  refine ⟨S, F, ρ, r, en, e1, fun v H1 F1 A p => k v F1 σ H1 A ⟨p.env, c, ?_, p.fr, fun i _ => ⟨p.sub i, rfl⟩, p.new, p.apart⟩⟩
  obtain ⟨⟨fl, d⟩, ρ'⟩ := r
  cases p.res with
  | slot _ q => exact q
  | bo _ _ => cases c
theorem st_retN {fuel : Nat} {pos : Pos} : PS X (.Return none pos) (tSt X.K (ex cl fuel .retN) []) := ps_w ps_retN fun D σ H ⟨S, F, ρ, o, en, h, k⟩ => by
  simp only [ex] at h
  cases h
  exact k .non F σ H [] ⟨en.nil, rfl, .sh rfl, Fr.refl F H, fun i _ => ⟨.inl rfl, rfl⟩, fun a h => (by cases h), fun a h => (by cases h)⟩
theorem st_exp {fuel : Nat} {e : E} {x : Expr} {pos : Pos} (h : PE X x (tD X.K (ev cl e))) (hs : swapsWith x none pos.line X.env = pure false) : PS X (.Expr x pos) (tSt X.K (ex cl fuel (.exp e)) []) := ps_w (ps_expr h hs) fun D σ H ⟨S, F, ρ, o, en, h, k⟩ => by
  simp only [ex] at h
  obtain ⟨r, e1, rfl⟩ := mapS h
  exact ⟨S, F, ρ, r, en, e1, fun v H1 F1 A p => k F1 σ H1 (.of p.go)⟩
theorem st_pass {fuel : Nat} {pos : Pos} : PS X (.Pass pos) (tSt X.K (ex cl fuel .pass) []) := ps_w ps_pass fun D σ H ⟨S, F, ρ, o, en, h, k⟩ => by
  simp only [ex] at h
  cases h
  exact k F σ H (.refl en)
theorem st_brk {fuel : Nat} {pos : Pos} : PS X (.Break pos) (tSt X.K (ex cl fuel .brk) []) := ps_w ps_break fun D σ H ⟨S, F, ρ, o, en, h, k⟩ => by
  simp only [ex] at h
  cases h
  exact k F σ H (.refl en)
theorem st_cnt {fuel : Nat} {pos : Pos} : PS X (.Continue pos) (tSt X.K (ex cl fuel .cnt) []) := ps_w ps_continue fun D σ H ⟨S, F, ρ, o, en, h, k⟩ => by
  simp only [ex] at h
  cases h
  exact k F σ H (.refl en)
theorem st_never {fuel : Nat} {s : Stmt} : PS X s (tSt X.K (ex cl fuel .never) []) := ps_w ps_never fun D σ H ⟨S, F, ρ, o, en, h, k⟩ => by
  simp only [ex] at h
  cases h
theorem st_if {fuel : Nat} {c : E} {a b : Ss} {x : Expr} {l m : List Stmt} {pos : Pos} (hc : PT X x (tT X.K (tv cl c))) (ha : PSs X l (tSt X.K (exs cl fuel a) (asgSs a))) (hb : PSs X m (tSt X.K (exs cl fuel b) (asgSs b))) :
    PS X (.If x l m pos) (tSt X.K (ex cl fuel (.ifs c a b)) (asgS (.ifs c a b))) := ps_w (ps_if hc ha hb) fun D σ H ⟨S, F, ρ, o, en, h, k⟩ => by
  simp only [ex] at h
  obtain ⟨⟨t, ρ1⟩, e1, h⟩ := bindS h
  refine ⟨S, F, ρ, _, en, e1, fun H1 F1 g1 => ?_⟩
  cases t with
  | true => exact ⟨S, F1, ρ1, o, g1.env, h, k.later (as := []) (.of g1) (fun i hi => by cases hi) fun i hi => List.mem_append_left _ hi⟩
  | false => exact ⟨S, F1, ρ1, o, g1.env, h, k.later (as := []) (.of g1) (fun i hi => by cases hi) fun i hi => List.mem_append_right _ hi⟩
theorem st_while (g : Gd cl N sc sc X) {fuel : Nat} {c : E} {b : Ss} {x : Expr} {l : List Stmt} {pos : Pos} (hc : PT X x (tT X.K (tv cl c))) (hb : PSs X l (tSt X.K (exs cl fuel b) (asgSs b))) :
    PS X (.While x l [] pos) (tSt X.K (ex cl fuel (.whl c b)) (asgS (.whl c b))) := ps_w (ps_while (by rw [g.xe]; exact PassesOwn.never) hc hb) fun D σ H ⟨S, F, ρ, o, en, h, k⟩ => by
  simp only [ex] at h
  refine ⟨fun m σ1 H1 => ∃ F1 ρ1, GoS X.K S F σ H (asgSs b) F1 σ1 ρ1 H1 ∧ whL (tv cl c) (exs cl fuel b) m ρ1 = some o, ⟨fuel, F, ρ, .refl en, h⟩, ?_⟩
  rintro m σ1 H1 ⟨F1, ρ1, g1, h1⟩
  have id' : ∀ i, i ∈ asgSs b → i ∈ asgSs b := fun _ h => h
  have no : ∀ i, i ∈ ([] : List Nat) → i ∈ asgSs b := fun _ h => by cases h
  cases m with
  | zero => cases h1
  | succ m =>
    simp only [whL] at h1
    cases e1 : tv cl c ρ1 with
    | none => rw [e1] at h1; cases h1
    | some t =>
      obtain ⟨t, ρ2⟩ := t
      rw [e1] at h1
      refine ⟨S, F1, ρ1, _, g1.env, e1, fun H2 F2 g2 => ?_⟩
      have g12 : GoS X.K S F σ H (asgSs b) F2 σ1 ρ2 H2 := g1.trans (as' := []) (.of g2) id' no
      cases t with
      | false =>
        cases h1
        exact k F2 σ1 H2 g12
      | true =>
        show ∃ N : L2.St → Hp → Prop, _
        refine ⟨fun σ' H' => ∃ F1 ρ1, GoS X.K S F σ H (asgSs b) F1 σ' ρ1 H' ∧ whL (tv cl c) (exs cl fuel b) m ρ1 = some o, fun σ' H' q => ⟨m, Nat.lt_succ_self m, q⟩, ?_⟩
        cases e3 : exs cl fuel b ρ2 with
        | none => simp only [e3] at h1; cases h1
        | some o3 =>
          simp only [e3] at h1
          refine ⟨S, F2, ρ2, o3, g2.env, e3, ?_⟩
          cases o3 with
          | nx ρ3 => exact fun F3 σ3 H3 g3 => ⟨F3, ρ3, g12.trans g3 id' id', h1⟩
          | ct ρ3 => exact fun F3 σ3 H3 g3 => ⟨F3, ρ3, g12.trans g3 id' id', h1⟩
          | bk ρ3 => cases h1; exact fun F3 σ3 H3 g3 => k F3 σ3 H3 (g12.trans g3 id' id')
          | rt r3 ρ3 => cases h1; exact fun v F3 σ3 H3 A g3 => k v F3 σ3 H3 A (RtS.trans g12 g3 id' id')
theorem st_for (g : Gd cl N sc sc X) {fuel : Nat} {p : Pat} {it : It} {b : Ss} {tg x : Expr} {l : List Stmt} {pos : Pos} (hi : PI X tg x (tI X.K (evI cl it))) (hp : chkP N sc p tg = true) (hfold : ∀ y, foldedSetIterable x X.env y = pure y) (hb : PSs X l (tSt X.K (exs cl fuel b) (asgSs b))) :
    PS X (.For tg x l [] pos) (tSt X.K (ex cl fuel (.for_ p it b)) (asgS (.for_ p it b))) := ps_w (ps_for (by rw [g.xe]; exact PassesOwn.never) g.calm hi (pg_ g p tg hp) hb hfold) fun D σ H ⟨S, F, ρ, o, en, h, k⟩ => by
  simp only [ex] at h
  obtain ⟨q, e1, h⟩ := bindS h
  refine ⟨S, F, ρ, q, en, e1, fun J H1 F1 g1 wk => ?_⟩
  generalize hf : (fun (ρ' : En) x => (bind p (.sh, x) ρ').bind (exs cl fuel b)) = f at h
  have id' : ∀ i, i ∈ slots p ++ asgSs b → i ∈ slots p ++ asgSs b := fun _ h => h
  have iL : ∀ i, i ∈ slots p → i ∈ slots p ++ asgSs b := fun _ h => List.mem_append_left _ h
  have iR : ∀ i, i ∈ asgSs b → i ∈ slots p ++ asgSs b := fun _ h => List.mem_append_right _ h
  have no : ∀ i, i ∈ ([] : List Nat) → i ∈ slots p ++ asgSs b := fun _ h => by cases h
  have gs : GoS X.K S F σ H (slots p ++ asgSs b) F1 σ q.2 H1 := .of g1
  refine ⟨fun i m σi Hi => m = q.1.length - i ∧ i ≤ q.1.length ∧ ∃ Fi ρi, GoS X.K S F1 σ H1 (slots p ++ asgSs b) Fi σi ρi Hi ∧ forL f (q.1.drop i) ρi = some o, ⟨q.1.length, by simp, Nat.zero_le _, F1, q.2, .refl g1.env, by simpa using h⟩, ?_⟩
  rintro i m σi Hi ⟨rfl, hi, Fi, ρi, gi, h1⟩
  have kp : ∀ b o, H1 b = some o → ¬ Wt S F1 b → Hi b = some o := fun b o e n => gi.fr.keep b o e fun i z => n (.inr ⟨i, z⟩)
  by_cases hlt : i < q.1.length
  · refine .inr ⟨wk.goes i Hi hlt kp, fun σ' H' => ∃ Fi ρi, GoS X.K S F1 σ H1 (slots p ++ asgSs b) Fi σ' ρi H' ∧ forL f (q.1.drop (i + 1)) ρi = some o, fun σ' H' p' => ⟨q.1.length - (i + 1), by omega, rfl, hlt, p'⟩, fun x H' y => ?_⟩
    obtain ⟨d, hd, sm, rr⟩ := wk.yields i Hi x H' hlt kp y
    have rx := rr (Wt S Fi) (fun a z => by
      rcases z with z | ⟨j, z⟩
      · exact .inl (.inl z)
      · rcases gi.fr.new j a z with ⟨j', q⟩ | q
        · exact .inl (.inr ⟨j', q⟩)
        · exact .inr q) fun a z => (gi.env.wt a z).ne
    have hdrop : q.1.drop i = d :: q.1.drop (i + 1) := by
      rw [List.drop_eq_getElem_cons hlt]
      rw [List.getElem?_eq_getElem hlt] at hd
      cases hd
      rfl
    rw [hdrop] at h1
    simp only [forL] at h1
    cases e2 : f ρi d with
    | none => rw [e2] at h1; cases h1
    | some o2 =>
      rw [e2] at h1
      rw [← hf] at e2
      obtain ⟨ρ2, b1, e3⟩ := bindS e2
      refine ⟨S, Fi, ρi, .sh, d, [], ρ2, (by rw [addS0]; exact gi.env.same sm), rfl, .sh (by rw [addS0]; exact rx), fun a ha => (by cases ha), b1, fun σ2 F2 pg => ?_⟩
      have g2 : GoS X.K S Fi σi Hi (slots p) F2 σ2 ρ2 H' := by
        refine ⟨pg.env, ⟨fun b o e _ => sm b o e, fun j a ha => ?_, (Fr.same (F := Fi) sm).there⟩, fun j hj => ⟨.inl (pg.out j hj).1, (pg.out j hj).2⟩⟩
        rcases pg.mem j a ha with z | z
        · cases z
        · exact .inl ⟨j, z⟩
      have g12 : GoS X.K S F1 σ H1 (slots p ++ asgSs b) F2 σ2 ρ2 H' := gi.trans g2 id' iL
      refine ⟨S, F2, ρ2, o2, pg.env, e3, ?_⟩
      cases o2 with
      | nx ρ3 => exact fun F3 σ3 H3 g3 => ⟨F3, ρ3, g12.trans g3 id' iR, h1⟩
      | ct ρ3 => exact fun F3 σ3 H3 g3 => ⟨F3, ρ3, g12.trans g3 id' iR, h1⟩
      | bk ρ3 => cases h1; exact fun F3 σ3 H3 g3 => k F3 σ3 H3 (gs.trans (g12.trans g3 id' iR) id' id')
      | rt r3 ρ3 => cases h1; exact fun v F3 σ3 H3 A g3 => k v F3 σ3 H3 A (RtS.trans gs (RtS.trans g12 g3 id' iR) id' id')
  · have e : i = q.1.length := by omega
    subst e
    rw [List.drop_length] at h1
    cases h1
    exact .inl ⟨wk.stops Hi kp, k Fi σi Hi (gs.trans gi id' id')⟩
end
end Mini

end
section
set_option Elab.async false
set_option linter.all false
set_option maxRecDepth 100000
set_option maxHeartbeats 4000000
/-! Mini, part 19: stores. -/
namespace Mini
open PySem PySem.Spec PyProof.Rows L2
/-- which names a parallel store exchanges (none of the outer: not told) -/
def swN (sc : Scope) (ts vs : List Expr) : Option (Option (List Str)) :=
  if (!(ts.length == 2 || ts.length == 3) || vs.length != ts.length) = true then some none
  else if (vs.any fun | .Starred .. => true | _ => false) = true then some none
  else
    let line := (ts.head?.map (·.pos.line)).getD 0
    let names := ts.filterMap fun
      | .Name id pos => if (sc.names.lookup id == some .local && pos.line == line) = true then some id else none
      | _ => none
    if (names.length != ts.length || names.eraseDups.length != names.length) = true then some none
    else if vs.all (foldedForSure 8) = true then some none
    else if vs.all (constantsAlone 8) = true then none
    else some (some names)
theorem swN_ok {sc : Scope} {ts vs : List Expr} {r : Option (List Str)} {env : Env} {k k2 : Nat} {p p2 : Pos} (h : swN sc ts vs = some r) (hs : env.scope = sc) (hk : sc.kind = .function) : swappedStores [.Tuple ts k p] (.Tuple vs k2 p2) env = pure r := by
  have hb : env.blockKind = .function := by unfold Env.blockKind; rw [hs, hk]; rfl
  have kd : ∀ id, env.kindOf id = sc.names.lookup id := fun id => by unfold Env.kindOf; rw [hs]
  subst hs
  unfold swN at h
  unfold swappedStores
  rw [hb]
  have hno : (ScopeKind.function != ScopeKind.function) = false := rfl
  split at h
  · rename_i c
    cases h
    show (if (!(ts.length == 2 || ts.length == 3) || vs.length != ts.length || _) = true then pure none else _) = _
    rw [if_pos (by rw [c]; rfl)]
  · rename_i c
    show (if (!(ts.length == 2 || ts.length == 3) || vs.length != ts.length || _) = true then pure none else _) = _
    rw [if_neg (by rw [hno, Bool.or_false]; exact c)]
    split at h
    · rename_i c2
      cases h
      exact if_pos c2
    · rename_i c2
      refine (if_neg c2).trans ?_
      simp only at h
      split at h
      · rename_i c3
        cases h
        exact if_pos c3
      · rename_i c3
        refine (if_neg c3).trans ?_
        split at h
        · rename_i c4
          cases h
          exact if_pos c4
        · rename_i c4
          refine (if_neg c4).trans ?_
          split at h
          · cases h
          · rename_i c5
            cases h
            exact if_neg c5

/-! ### values held, then stored -/
structure Hv where
  sl : Sl
  v : V
  A : List Addr
def addAll (S : Addr → Prop) : List Hv → Addr → Prop
  | [] => S
  | x :: rs => addS (addAll S rs) x.A
def ApAll (S : Addr → Prop) : List Hv → Prop
  | [] => True
  | x :: rs => (∀ a ∈ x.A, ¬ addAll S rs a) ∧ ApAll S rs
theorem addAll_mem {S : Addr → Prop} : ∀ {rs : List Hv} {x : Hv} {a : Addr}, x ∈ rs → a ∈ x.A → addAll S rs a
  | y :: rs, x, a, h, ha => by
    rcases List.mem_cons.mp h with e | h
    · subst e; exact .inr ha
    · exact .inl (addAll_mem h ha)
structure Held (K : PySem.W.Frag) (S : Addr → Prop) (F : Fs) (σ : L2.St) (H : Hp) (as : List Nat) (rs : List Hv) (F' : Fs) (σ' : L2.St) (ρ' : En) (H' : Hp) : Prop where
  env : EnvOk K (addAll S rs) F' ρ' σ' H'
  reps : ∀ x ∈ rs, okFl x.sl.1 = true ∧ SlotRep K (Wt (addAll S rs) F') H' x.sl.1 x.v x.sl.2 x.A
  ap : ApAll S rs
  fr : Fr F H F' H'
  sub : ∀ i, i ∉ as → (F' i = F i ∨ F' i = []) ∧ σ'[i]? = σ[i]?
  new : ∀ x ∈ rs, ∀ a ∈ x.A, (∃ j, a ∈ F j) ∨ H a = none
section
variable {K : PySem.W.Frag} {S : Addr → Prop} {F F1 F2 : Fs} {σ σ1 : L2.St} {H H1 H2 : Hp} {ρ ρ1 : En} {as bs : List Nat} {rs : List Hv}
theorem Held.start (e : EnvOk K S F ρ σ H) : Held K S F σ H as [] F σ ρ H := ⟨e, fun x h => (by cases h), trivial, Fr.refl F H, fun _ _ => ⟨.inl rfl, rfl⟩, fun x h => (by cases h)⟩
theorem Held.end (h : Held K S F σ H as [] F1 σ1 ρ1 H1) : GoS K S F σ H as F1 σ1 ρ1 H1 := ⟨h.env, h.fr, h.sub⟩
theorem Held.ev {r : Sl × En} {v : V} {A : List Addr} (h : Held K S F σ H as rs F1 σ1 ρ1 H1) (p : PostE K (addAll S rs) F1 σ1 H1 r v H2 F2 A) (ok : okFl r.1.1 = true) : Held K S F σ H as (⟨r.1, v, A⟩ :: rs) F2 σ1 r.2 H2 := by
  refine ⟨p.env, fun x hx => ?_, ⟨p.apart, h.ap⟩, h.fr.trans p.fr, fun i hi => sub_trans (h.sub i hi) ⟨p.sub i, rfl⟩, fun x hx a ha => ?_⟩
  · rcases List.mem_cons.mp hx with e | hx
    · subst e
      refine ⟨ok, ?_⟩
      obtain ⟨⟨fl, d⟩, ρ'⟩ := r
      cases p.res with
      | slot _ q => exact q
      | bo _ _ => cases ok
    · obtain ⟨k1, k2⟩ := h.reps x hx
      refine ⟨k1, k2.step (fun b o e n => p.fr.keep b o e fun i z => n (.inr ⟨i, z⟩)) (fun a z => ?_) (fun a ha => ?_) h.env.wt⟩
      · rcases z with (z | z) | ⟨i, z⟩
        · exact .inl (.inl z)
        · rcases p.new a z with ⟨j, q⟩ | q
          · exact .inl (.inr ⟨j, q⟩)
          · exact .inr q
        · rcases p.sub i with e | e
          · rw [e] at z; exact .inl (.inr ⟨i, z⟩)
          · rw [e] at z; cases z
      · rcases k2.mus a ha with ⟨ys, q⟩ | ⟨ys, q⟩ <;> (rw [q]; exact p.fr.keep a _ q fun i z => h.env.ext i a z (addAll_mem hx ha))
  · rcases List.mem_cons.mp hx with e | hx
    · subst e
      rcases p.new a ha with ⟨j, q⟩ | q
      · exact h.fr.new j a q
      · cases e : H a with
        | none => exact .inr rfl
        | some o => exact absurd q (h.fr.there a (by rw [e]; exact Option.some_ne_none _))
    · exact h.new x hx a ha
theorem Held.put {x : Hv} {i : Nat} (h : Held K S F σ H as (x :: rs) F1 σ1 ρ1 H1) (hi : i < ρ1.length) (ia : i ∈ as) : Held K S F σ H as rs (setF F1 i x.A) (σ1.set i (some x.v)) (ρ1.set i (some x.sl)) H1 := by
  obtain ⟨k1, k2⟩ := h.reps x (List.mem_cons_self ..)
  refine ⟨EnvOk.set h.env k2 hi h.ap.1, fun y hy => ?_, h.ap.2, ⟨h.fr.keep, fun j a ha => ?_, h.fr.there⟩, fun j hj => ?_, fun y hy => h.new y (List.mem_cons_of_mem _ hy)⟩
  · obtain ⟨k3, k4⟩ := h.reps y (List.mem_cons_of_mem _ hy)
    refine ⟨k3, k4.mono (fun a z => ?_) h.env.wt⟩
    rcases z with z | ⟨j, z⟩
    · exact .inl (.inl z)
    · by_cases hj : j = i
      · subst hj; rw [setF_same] at z; exact .inl (.inr z)
      · rw [setF_ne hj] at z; exact .inr ⟨j, z⟩
  · by_cases hj : j = i
    · subst hj; rw [setF_same] at ha; exact h.new x (List.mem_cons_self ..) a ha
    · rw [setF_ne hj] at ha; exact h.fr.new j a ha
  · have hji : j ≠ i := fun e => hj (by rw [e]; exact ia)
    rw [setF_ne hji, List.getElem?_set_ne (Ne.symm hji)]
    exact h.sub j hj
end
section
variable {X : Cx} {cl : CallS} {N : List Str} {sc : Scope}
theorem nm_bind {i : Nat} {sl : Sl} {ρ ρ' : En} (h : bind (.nm i) sl ρ = some ρ') : okFl sl.1 = true ∧ i < ρ.length ∧ ρ' = ρ.set i (some sl) := by
  obtain ⟨fl, d⟩ := sl
  simp only [bind] at h
  obtain ⟨c, h⟩ := iteS h
  cases h
  obtain ⟨a, b⟩ := and2 c
  exact ⟨a, of_decide_eq_true b, rfl⟩
theorem g_nm_w {i : Nat} : ∀ v σ H Q, tG X.K (.nm i) v σ H Q → gName i v σ H Q := fun v σ H Q ⟨S, F, ρ, fl, d, A, ρ', e, ok, r, ap, b, k⟩ => by
  obtain ⟨_, hi, rfl⟩ := nm_bind b
  refine k _ _ ⟨e.set r hi ap, fun j hj => ?_, fun j a ha => ?_, by simp⟩
  · have hj : j ≠ i := by simpa [slots] using hj
    exact ⟨setF_ne hj, List.getElem?_set_ne (Ne.symm hj)⟩
  · by_cases hj : j = i
    · subst hj; rw [setF_same] at ha; exact .inl ha
    · rw [setF_ne hj] at ha; exact .inr ha
theorem bind_ok {p : Pat} {sl : Sl} {ρ ρ' : En} (h : bind p sl ρ = some ρ') : okFl sl.1 = true := by
  cases p with
  | nm i => exact (nm_bind h).1
  | tp ps =>
    obtain ⟨fl, d⟩ := sl
    cases fl with
    | sh => rfl
    | _ => cases d <;> cases h
theorem asg_w {fuel : Nat} {p : Pat} {e : E} {te : TE} {g : TG} (ht : ∀ σ H Q, tD X.K (ev cl e) σ H Q → te σ H Q) (hg : ∀ v σ H Q, tG X.K p v σ H Q → g v σ H Q) : ∀ D σ H, tSt X.K (ex cl fuel (.asg p e)) (slots p) D σ H → tAsg te g D σ H := by
  rintro D σ H ⟨S, F, ρ, o, en, h, k⟩
  simp only [ex] at h
  obtain ⟨r, e1, h⟩ := bindS h
  obtain ⟨ρ', b, rfl⟩ := mapS h
  refine ht _ _ _ ⟨S, F, ρ, r, en, e1, fun v H1 F1 A p1 => hg _ _ _ _ ⟨S, F1, r.2, r.1.1, r.1.2, A, ρ', p1.env, bind_ok b, ?_, p1.apart, b, fun σ' F' pg => k F' σ' H1 ⟨pg.env, ⟨p1.fr.keep, fun i a ha => ?_, p1.fr.there⟩, fun i hi => ?_⟩⟩⟩
  · have ok := bind_ok b
    obtain ⟨⟨fl, d⟩, ρ2⟩ := r
    cases p1.res with
    | slot _ q => exact q
    | bo _ _ => cases ok
  · rcases pg.mem i a ha with z | z
    · exact p1.new a z
    · exact p1.fr.new i a z
  · obtain ⟨a1, a2⟩ := pg.out i hi
    rw [a1, a2]
    exact ⟨p1.sub i, rfl⟩
theorem par2_w {fuel : Nat} {i j : Nat} {a b : E} (hij : i ≠ j) : ∀ D σ H, tSt X.K (ex cl fuel (.par (.cons (.nm i) (.cons (.nm j) .nil)) (.cons a (.cons b .nil)))) [i, j] D σ H → tPar i j (tCons (tD X.K (ev cl a)) (tCons (tD X.K (ev cl b)) tNil)) D σ H := by
  rintro D σ H ⟨S, F, ρ, o, en, h, k⟩
  simp only [ex, evP] at h
  obtain ⟨r, e1, h⟩ := bindS h
  obtain ⟨ρ', e2, rfl⟩ := mapS h
  obtain ⟨p1, e3, e1⟩ := bindS e1
  obtain ⟨c1, e1⟩ := iteS e1
  obtain ⟨q1, e4, rfl⟩ := mapS e1
  obtain ⟨p2, e5, e4⟩ := bindS e4
  obtain ⟨c2, e4⟩ := iteS e4
  cases e4
  simp only [bindP] at e2
  obtain ⟨ρ1, b1, e2⟩ := bindS e2
  obtain ⟨ρ2, b2, e2⟩ := bindS e2
  cases e2
  obtain ⟨_, l1, rfl⟩ := nm_bind b1
  obtain ⟨_, l2, rfl⟩ := nm_bind b2
  refine ⟨S, F, ρ, p1, en, e3, fun v H1 F1 A1 q1 => ⟨_, F1, p1.2, p2, q1.env, e5, fun w H2 F2 A2 q2 => ⟨v, w, rfl, ?_⟩⟩⟩
  have h0 := Held.start (as := [i, j]) en
  have h1 := h0.ev q1 c1
  have h2 := h1.ev q2 c2
  have h3 := h2.put (i := j) (by simpa using l2) (by simp)
  have h4 := h3.put (i := i) (by simpa using l1) (by simp)
  have h5 := h4.end
  rw [List.set_comm _ _ (Ne.symm hij), List.set_comm _ _ (Ne.symm hij)] at h5
  exact k _ _ _ h5
theorem par3_w {fuel : Nat} {i j l : Nat} {a b c : E} (hij : i ≠ j) (hil : i ≠ l) (hjl : j ≠ l) : ∀ D σ H, tSt X.K (ex cl fuel (.par (.cons (.nm i) (.cons (.nm j) (.cons (.nm l) .nil))) (.cons a (.cons b (.cons c .nil))))) [i, j, l] D σ H →
    tPar3 i j l (tCons (tD X.K (ev cl a)) (tCons (tD X.K (ev cl b)) (tCons (tD X.K (ev cl c)) tNil))) D σ H := by
  rintro D σ H ⟨S, F, ρ, o, en, h, k⟩
  simp only [ex, evP] at h
  obtain ⟨r, e1, h⟩ := bindS h
  obtain ⟨ρ', e2, rfl⟩ := mapS h
  obtain ⟨p1, e3, e1⟩ := bindS e1
  obtain ⟨c1, e1⟩ := iteS e1
  obtain ⟨q1, e4, rfl⟩ := mapS e1
  obtain ⟨p2, e5, e4⟩ := bindS e4
  obtain ⟨c2, e4⟩ := iteS e4
  obtain ⟨q2, e6, rfl⟩ := mapS e4
  obtain ⟨p3, e7, e6⟩ := bindS e6
  obtain ⟨c3, e6⟩ := iteS e6
  cases e6
  simp only [bindP] at e2
  obtain ⟨ρ1, b1, e2⟩ := bindS e2
  obtain ⟨ρ2, b2, e2⟩ := bindS e2
  obtain ⟨ρ3, b3, e2⟩ := bindS e2
  cases e2
  obtain ⟨_, l1, rfl⟩ := nm_bind b1
  obtain ⟨_, l2, rfl⟩ := nm_bind b2
  obtain ⟨_, l3, rfl⟩ := nm_bind b3
  refine ⟨S, F, ρ, p1, en, e3, fun v H1 F1 A1 q1 => ⟨_, F1, p1.2, p2, q1.env, e5, fun w H2 F2 A2 q2 => ⟨_, F2, p2.2, p3, q2.env, e7, fun u H3 F3 A3 q3 => ⟨v, w, u, rfl, ?_⟩⟩⟩⟩
  have h0 := Held.start (as := [i, j, l]) en
  have h1 := h0.ev q1 c1
  have h2 := h1.ev q2 c2
  have h2' := h2.ev q3 c3
  have h3 := h2'.put (i := l) (by simpa using l3) (by simp)
  have h4 := h3.put (i := j) (by simpa using l2) (by simp)
  have h5 := (h4.put (i := i) (by simpa using l1) (by simp)).end
  have com : ∀ {α : Type} (xs : List (Option α)) (x y z : Option α), ((xs.set l z).set j y).set i x = ((xs.set i x).set j y).set l z := fun xs x y z => by
    rw [List.set_comm _ _ (Ne.symm hjl), List.set_comm _ _ (Ne.symm hil), List.set_comm _ _ (Ne.symm hij)]
  rw [com, com] at h5
  exact k _ _ _ h5

/-! ### name = comprehension, on one line -/
def swC (sc : Scope) (t : Str) (tp vp : Pos) (scope : Scope) : Bool := (sc.names.lookup t == some .local) && (tp.line == vp.line) && !(scope.names.any fun (n, k) => n == t && (k == .local || k == .cell))
def compScope : Expr → Option (Scope × Pos)
  | .ListComp _ _ s p | .SetComp _ _ s p | .DictComp _ _ _ s p => some (s, p)
  | _ => none
theorem sw_name {e : Expr} {t : Str} {tp : Pos} {l : Nat} {env : Env} (hs : env.scope = sc) (hk : sc.kind = .function) : swapsWith e (some (.Name t tp)) l env = pure (match compScope e with
    | some (s, p) => swC sc t tp p s
    | none => false) := by
  have hb : env.blockKind = .function := by unfold Env.blockKind; rw [hs, hk]; rfl
  subst hs
  cases e <;> first | rfl | skip
  all_goals
    unfold swapsWith
    simp only [hb, compScope, swC, Env.kindOf, Expr.pos]
    rfl
theorem sw_tup {e : Expr} {ts : List Expr} {k : Nat} {p : Pos} {l : Nat} {env : Env} : swapsWithSole [.Tuple ts k p] e l env = pure false := by
  cases e <;> rfl
theorem sw_none {e : Expr} {l : Nat} {env : Env} (h : compScope e = none) : swapsWith e none l env = pure false := by
  cases e <;> first | rfl | cases h
theorem sw_sub {e o i : Expr} {p : Pos} {l : Nat} {env : Env} : swapsWith e (some (.Subscript o i p)) l env = pure false := by
  cases e <;> rfl
end
end Mini

end
section
set_option Elab.async false
set_option linter.all false
set_option maxRecDepth 100000
set_option maxHeartbeats 4000000
/-! Mini, part 19s: the draws' record changed. -/
namespace Mini
open PySem PySem.Spec PyProof.Rows L2
section
variable {X : Cx} {cl : CallS} {N : List Str} {sc : Scope}
theorem st_setf (g : Gd cl N sc sc X) {fuel : Nat} {i : Nat} {k : Str} {e : E} {o v : Expr} {kk : Nat} {kp sp pos : Pos} (ho : chkNm N sc i o = true) (hv : chkE N sc e v = true) :
    PS X (.Assign [.Subscript o (.Constant (.str k) kk kp) sp] v pos) (tSt X.K (ex cl fuel (.setf i k e)) []) :=
  ps_w (ps_dput (by have := g.room; omega) (pe_nm g ho) pe_str (pe_k (snd_E e g hv).1) sw_sub) fun D σ H ⟨S, F, ρ, out, en, h, q⟩ => by
    simp only [ex] at h
    obtain ⟨r, e1, h⟩ := bindS h
    split at h
    · rename_i w d hw hr
      obtain ⟨d', hd, rfl⟩ := mapS h
      refine ⟨S, F, ρ, r, en, e1, fun u H1 F1 p1 => ?_⟩
      obtain ⟨vo, hvo, sr⟩ := p1.go.env.slot i _ _ hr
      obtain ⟨a, c, ns, l, m, t, rfl, rfl, ha, hc, hac, hA⟩ := sr.rcd (putF_rec hd)
      obtain ⟨l', m', t', rfl, hput⟩ := putF_src (c := c) hd
      have hu : u = .int w := by
        have := p1.rep
        rw [hw] at this
        exact this
      refine ⟨_, hvo, a, _, rfl, by rw [hu]; exact DPut.k (k := .inr k) ha (by show (srcKvs c l m t).length < sizeLine; simp [srcKvs]; decide), ?_⟩
      rw [hput]
      have ma : a ∈ F1 i := by rw [hA]; exact List.mem_cons_self ..
      have e2 : EnvOk X.K S F1 (r.2.set i (some (.src, srcD ns l' m' t'))) σ (upd H1 a (.dK (srcKvs c l' m' t'))) := by
        refine p1.go.env.put (rd_lt hr) ma hvo (.inr ⟨_, upd_same⟩) ?_
        rw [hA]
        exact .src upd_same (by rw [upd_ne (Ne.symm hac)]; exact hc) hac
      exact q F1 σ _ (.of ⟨e2, p1.go.fr.trans (Fr.put ma), p1.go.sub⟩)
    · cases h
theorem EnvOk.sig {K : PySem.W.Frag} {S : Addr → Prop} {F : Fs} {ρ : En} {σ : L2.St} {H : Hp} (e : EnvOk K S F ρ σ H) {j : Nat} {x : Option V} (h : rd ρ j = none) : EnvOk K S F ρ (σ.set j x) H := by
  refine ⟨by simp [e.len], fun i fl d q => ?_, e.emp, e.dis, e.ext, e.wf⟩
  have hij : i ≠ j := fun z => by rw [z, h] at q; cases q
  rw [List.getElem?_set_ne (Ne.symm hij)]
  exact e.slot i fl d q
theorem rd_self {ρ : En} {i : Nat} {s : Sl} (h : rd ρ i = some s) : ρ.set i (some s) = ρ := by
  have hi := rd_lt h
  unfold rd at h
  rw [List.getElem?_eq_getElem hi] at h
  have h' : ρ[i] = some s := h
  rw [← h']
  exact List.set_getElem_self hi
/-- cells = source['cells'] ; while source['left'] < 2 and len(cells) > 0: source['left'] = cells.pop() -/
theorem st_pull (g : Gd cl N sc sc X) (hk : sc.kind = .function) {fuel : Nat} {i j : Nat} {r : Ss} {y : Str} {n1 n2 n3 n4 n5 ln : Expr} {py q1 q2 q3 q4 q5 q6 q7 q8 q9 qa qb qc qd qe qf qi qj : Pos} {j1 j2 j3 j4 j5 : Nat} {rest : List Stmt}
    (hy : N[j]? = some y) (hst : isSto sc y = true) (h1 : chkNm N sc i n1 = true) (h2 : chkNm N sc i n2 = true) (h3 : chkNm N sc j n3 = true) (h4 : chkNm N sc i n4 = true) (h5 : chkNm N sc j n5 = true) (hl : chkGl sc "len" ln = true) (hline : (qi.endLine == qj.line) = true)
    (hr : PSs X rest (tSt X.K (exs cl fuel r) (asgSs r))) :
    PSs X (.Assign [.Name y py] (.Subscript n1 (.Constant (.str "cells") j1 q1) q2) q3 :: .While (.BoolOp .And [.Compare (.Subscript n2 (.Constant (.str "left") j2 q4) q5) [.Lt] [.Constant (.int 2) j3 q6] q7, .Compare (.Call ln [n3] [] q8) [.Gt] [.Constant (.int 0) j4 q9] qa] qb)
      [.Assign [.Subscript n4 (.Constant (.str "left") j5 qc) qd] (.Call (.Attribute n5 "pop" qi) [] [] qj) qe] [] qf :: rest) (tSt X.K (exs cl fuel (.pull i j r)) (asgSs (.pull i j r))) := by
  obtain ⟨hloc, hf⟩ := (show L2.Loc X.env.scope y ∧ (X.fn y = true ∨ X.env.scope.names.lookup y = some .local) from by rw [g.es]; exact g.isSto hst)
  obtain ⟨pl, rfl, g1, g2⟩ := chkGl_ok hl
  obtain ⟨d1, d2, d3⟩ := notDun_ok g2
  have hs3 : ∀ xs env, starEach (n3 :: xs) env = (false, eval n3 env) :: starEach xs env := fun xs env => by
    unfold chkNm at h3
    split at h3
    · rfl
    · cases h3
  have hu : X.A.units + 1 < cLine := by have := g.room; omega
  refine pss_w (pss_cons (ps_set (by rw [g.eN]; exact g.nd) (by rw [g.eN]; exact hy) hloc (pe_ix ix_dict (pe_nm g h1) pe_str fun _ _ => rfl) rfl hf)
    (pss_cons (ps_while (by rw [g.xe]; exact PassesOwn.never)
      (pw_and (pt_cmp (pc_lt (pe_ix ix_dict (pe_nm g h2) pe_str fun _ _ => rfl) pe_int) rfl) (pw_and1 (pt_cmp (pc_gt (pe_call1 (.inl ⟨_, rfl⟩) call_len (g.gl g1) (g.free _ (by simp [freeN])) boot_len (pa_cons (pe_nm g h3) pa_nil (hs3 _ _)) d3 d1 (hs3 _ _) rfl) pe_int) rfl))).pt
      (pss_one (ps_dput hu (pe_nm g h4) pe_str (pe_bm0 PySem.F.plainAttrs_list PySem.F.slot_list_pop PySem.F.type_list_pop mt_pop (pe_nm g h5) (attrNm h5 _ _) hline) sw_sub))) hr)) fun D σ H ⟨S, F, ρ, o, en, h, k⟩ => ?_
  simp only [exs] at h
  split at h
  · rename_i d hri hrj
    obtain ⟨cc, h⟩ := iteS h
    obtain ⟨c1, c2⟩ := and2 cc
    have hij := of_decide_eq_true c1
    have hjl := of_decide_eq_true c2
    obtain ⟨d', hd', hrun⟩ := bindS h
    obtain ⟨vo, hvo, sr⟩ := en.slot i _ _ hri
    have hnl : ∀ ds, d ≠ .list ds := fun ds z => by subst z; cases hd'
    obtain ⟨a, c, ns, l, m, t, rfl, rfl, ha, hc, hac, hA⟩ := sr.rcd hnl
    have hd2 : d' = srcD (pullI ns.reverse l).1.reverse (pullI ns.reverse l).2 m t := by
      have z : ((allI (ns.map PyData.int)).map fun ns => srcD (pullI ns.reverse l).1.reverse (pullI ns.reverse l).2 m t) = some d' := hd'
      rw [allI_map] at z
      exact (Option.some.inj z).symm
    have ma : a ∈ F i := by rw [hA]; simp
    have mc : c ∈ F i := by rw [hA]; simp
    refine ⟨_, hvo, a, .ref c, rfl, DGet.k (k := .inr "cells") ha, hu, ?_⟩
    generalize hσ1 : σ.set j (some (V.ref c)) = σ1
    have s1 : σ1[i]? = some (some (V.ref a)) := by rw [← hσ1, List.getElem?_set_ne (Ne.symm hij)]; exact hvo
    have s2 : σ1[j]? = some (some (V.ref c)) := by rw [← hσ1, List.getElem?_set_self (by rw [← en.len]; exact hjl)]
    have so : ∀ i', i' ≠ j → σ1[i']? = σ[i']? := fun i' z => by rw [← hσ1, List.getElem?_set_ne (Ne.symm z)]
    have e1 : EnvOk X.K S F (ρ.set i (some (.src, srcD ns l m t))) σ1 H := by
      rw [rd_self hri, ← hσ1]
      exact en.sig hrj
    show tWhile _ _ _ (σ.set j (some (V.ref c))) H
    rw [hσ1]
    refine ⟨fun m' σ' H' => σ' = σ1 ∧ ∃ ns' l', EnvOk X.K S F (ρ.set i (some (.src, srcD ns' l' m t))) σ1 H' ∧ Fr F H F H' ∧ H' a = some (.dK (srcKvs c l' m t)) ∧ H' c = some (.lst (ns'.map .int)) ∧ m' = ns'.length ∧ pullI ns'.reverse l' = pullI ns.reverse l, ⟨ns.length, rfl, ns, l, e1, Fr.refl F H, ha, hc, rfl, rfl⟩, ?_⟩
    rintro m' σ' H' ⟨rfl, ns', l', e2, f2, ha', hc', rfl, hp⟩
    have fin : ∀ (hq : pullI ns'.reverse l' = (ns'.reverse, l')), tSt X.K (exs cl fuel r) (asgSs r) D σ' H' := fun hq => by
      have hd3 : d' = srcD ns' l' m t := by
        rw [hd2, ← hp, hq, List.reverse_reverse]
      rw [hd3] at hrun
      refine ⟨S, F, _, o, e2, hrun, k.later (as := [j]) ⟨e2, f2, fun i' hi => ⟨.inl rfl, so i' (by simpa using hi)⟩⟩ (fun i' hi => ?_) fun i' hi => List.mem_cons_of_mem _ hi⟩
      rw [List.mem_singleton.mp hi]
      exact List.mem_cons_self ..
    refine ⟨_, s1, a, .int l', rfl, DGet.k (k := .inr "left") ha', hu, l', 2, rfl, rfl, ⟨_, rfl, ?_⟩⟩
    show (if decide (l' < 2) = true then _ else _)
    by_cases hl2 : l' < 2
    · rw [if_pos (decide_eq_true hl2)]
      refine ⟨_, s2, ⟨V.ref c, (ns'.map V.int).length, rfl, .inl ⟨_, SqL.of hc', rfl⟩, ((ns'.map V.int).length : Nat), 0, rfl, rfl, ⟨_, rfl, ?_⟩⟩⟩
      show (if decide ((0 : Int) < (((ns'.map V.int).length : Nat) : Int)) = true then _ else _)
      rcases List.eq_nil_or_concat ns' with rfl | ⟨init, n, rfl⟩
      · rw [if_neg (by simp)]
        exact fin rfl
      · rw [if_pos (by simp)]
        rw [List.concat_eq_append] at *
        refine ⟨fun σ'' H'' => σ'' = σ' ∧ ∃ ns'' l'', EnvOk X.K S F (ρ.set i (some (.src, srcD ns'' l'' m t))) σ' H'' ∧ Fr F H F H'' ∧ H'' a = some (.dK (srcKvs c l'' m t)) ∧ H'' c = some (.lst (ns''.map .int)) ∧ ns''.length = init.length ∧ pullI ns''.reverse l'' = pullI ns.reverse l, fun σ'' H'' ⟨z, ns'', l'', z1, z2, z3, z4, z5, z6⟩ => ⟨ns''.length, by rw [z5]; simp, z, ns'', l'', z1, z2, z3, z4, rfl, z6⟩, ?_⟩
        refine ⟨_, s2, .inl ⟨rfl, _, SqL.of hc'⟩, c, _, .int n, rfl, rfl, hc', by simp, ?_⟩
        have ha3 : upd H' c (.lst ((init ++ [n]).map V.int).dropLast) a = some (.dK (srcKvs c l' m t)) := by rw [upd_ne hac]; exact ha'
        refine ⟨_, s1, a, _, rfl, DPut.k (k := .inr "left") ha3 (by show (srcKvs c l' m t).length < sizeLine; simp [srcKvs]; decide), rfl, init, n, ?_, ?_, ?_, ?_, rfl, ?_⟩
        · have hdl : ((init ++ [n]).map V.int).dropLast = init.map V.int := by simp
          rw [hdl]
          have k1 : EnvOk X.K S F ((ρ.set i (some (.src, srcD (init ++ [n]) l' m t))).set i (some (.src, srcD init l' m t))) σ' (upd H' c (.lst (init.map V.int))) := by
            refine e2.put (by rw [List.length_set]; exact rd_lt hri) mc s1 (.inl ⟨_, upd_same⟩) ?_
            rw [hA]
            exact .src (by rw [upd_ne hac]; exact ha') upd_same hac
          have k2 := k1.put (i := i) (a := a) (o := .dK (srcKvs c n m t)) (fl := .src) (d := srcD init n m t) (v := .ref a) (by rw [List.length_set, List.length_set]; exact rd_lt hri) ma s1 (.inr ⟨_, upd_same⟩) (by
            rw [hA]
            exact .src upd_same (by rw [upd_ne (Ne.symm hac)]; exact upd_same) hac)
          rw [List.set_set, List.set_set] at k2
          exact k2
        · exact (f2.trans (Fr.put mc)).trans (Fr.put ma)
        · exact upd_same
        · rw [upd_ne (Ne.symm hac), upd_same]
          simp
        · rw [← hp]
          simp [pullI, hl2]
    · rw [if_neg (show ¬ (decide (l' < 2) = true) from fun z => hl2 (of_decide_eq_true z))]
      refine fin ?_
      cases hns : ns'.reverse with
      | nil => rfl
      | cons n r => simp [pullI, hl2]
  · cases h
end
end Mini

end
section
set_option Elab.async false
set_option linter.all false
set_option maxRecDepth 100000
set_option maxHeartbeats 4000000
/-! Mini, part 20: the rules of stores; every checked statement does what its meaning tells. -/
namespace Mini
open PySem PySem.Spec PyProof.Rows L2
section
variable {X : Cx}
/-- name = {k: v for ..} on one line, the name a local -/
theorem ps_setDc {i : Nat} {y : Str} {py : Pos} {kx vx tg iter : Expr} {ifs : List Expr} {scope : Scope} {own : List (Str × Nat)} {pos spos : Pos} {wi : TI} {g : TG} {tt : TT} {tk tv : TE} (hc : X.calm = true) (hN : X.N.Nodup) (hy : X.N[i]? = some y)
    (hyl : X.env.scope.names.lookup y = some .local) (hsw : swapsWith (.DictComp kx vx [⟨tg, iter, ifs, 0⟩] scope pos) (some (.Name y py)) spos.line X.env = pure true) (hi : PI X tg iter wi) (ok : BlkOk X.N X.env.scope scope own)
    (hg : ∀ (s : Shared) (H : Hp) (C : Addr) (cs : List (Str × Addr)) (fp : List Addr), PG (X.blk s H scope (compEnvC scope cs C X.env) fp) tg g) (ht : ∀ (s : Shared) (H : Hp) (C : Addr) (cs : List (Str × Addr)) (fp : List Addr), PTs (X.blk s H scope (compEnvC scope cs C X.env) fp) ifs tt)
    (hk : ∀ (s : Shared) (H : Hp) (C : Addr) (cs : List (Str × Addr)) (fp : List Addr), PE (X.blk s H scope (compEnvC scope cs C X.env) fp) kx tk) (hv : ∀ (s : Shared) (H : Hp) (C : Addr) (cs : List (Str × Addr)) (fp : List Addr), PE (X.blk s H scope (compEnvC scope cs C X.env) fp) vx tv)
    (hs : ∀ x, foldedSetIterable iter X.env x = pure x) : PS X (.Assign [.Name y py] (.DictComp kx vx [⟨tg, iter, ifs, 0⟩] scope pos) spos) (tAsg (tDc wi g tt tk tv (own.map (·.2))) (gName i)) := by
  refine ⟨fun pins s σ H D I h => ?_⟩
  rw [exec_Assign_Name_used _ _ _ _ hsw]
  refine wpAny_bind (wpAny_standAt (wpAny_bind ?_))
  show wpAny _ X.A (comprehension (.DictComp kx vx [⟨tg, iter, ifs, 0⟩] scope pos) scope X.env (firstIterPos [⟨tg, iter, ifs, 0⟩] pos) newDict false (eval iter X.env) (some (assign (.Name y py) X.env)) >>= fun _ => pure ()) _ _ s
  have h' : tDc wi g tt tk tv (own.map (·.2)) σ H (fun x H1 => gName i x σ H1 D.nx) := h
  refine wpAny_bind (thn (dc_core (Qf := fun _ s' => SP X pins D .next s') hc hN I hi ok hg ht hk hv hs h' fun L C s' m H' I' q hn f => ?_) fun _ s' hq => wpAny_pure (wpAny_pure hq))
  show wpAny _ _ (assign (.Name y py) X.env (.ref L)) _ _ _
  refine wpAny_assign_Name (store_ok2 (v := V.ref L) I' hN hy (.inl hyl) rfl (fun s2 I2 ⟨a, sb, ha⟩ => ?_) (.inr hyl))
  obtain ⟨f0, f1, f2, f3, f4, f5⟩ := f
  have haC : C ≠ a := fun e => by
    rcases ha with z | z
    · exact f1 (e.trans z)
    · exact f4 y a z e.symm
  refine ⟨m, hn.sameBut sb haC, fun h3 sb3 => ⟨_, H', I2.turned (t' := s2.toks) (fun b o hb e => (sb3.2 b hb).trans e) f0 f1 f3 f4 f5, q⟩⟩
end
section
variable {X : Cx} {cl : CallS} {N : List Str} {sc : Scope}
theorem loc_st (g : Gd cl N sc sc X) {x : Str} (h : isSto sc x = true) : L2.Loc X.env.scope x ∧ (X.fn x = true ∨ X.env.scope.names.lookup x = some .local) := by
  rw [g.es]
  exact g.isSto h
/-- name = value -/
theorem st_set (g : Gd cl N sc sc X) (hk : sc.kind = .function) {fuel : Nat} {i : Nat} {e : E} {x : Str} {py : Pos} {v : Expr} {pos : Pos} (hi : N[i]? = some x) (hx : isSto sc x = true) (hv : chkE N sc e v = true) :
    PS X (.Assign [.Name x py] v pos) (tSt X.K (ex cl fuel (.asg (.nm i) e)) (asgS (.asg (.nm i) e))) := by
  obtain ⟨hl, hf⟩ := loc_st g hx
  have hN : X.N.Nodup := by rw [g.eN]; exact g.nd
  have hi' : X.N[i]? = some x := by rw [g.eN]; exact hi
  have hsw := sw_name (e := v) (t := x) (tp := py) (l := pos.line) g.es hk
  cases hc : compScope v with
  | none =>
    rw [hc] at hsw
    exact ps_w (ps_set hN hi' hl (snd_E e g hv).1 hsw hf) (asg_w (fun _ _ _ h => h) g_nm_w)
  | some sp =>
    obtain ⟨scope, vp⟩ := sp
    rw [hc] at hsw
    cases hb : swC sc x py vp scope with
    | false =>
      simp only [hb] at hsw
      exact ps_w (ps_set hN hi' hl (snd_E e g hv).1 hsw hf) (asg_w (fun _ _ _ h => h) g_nm_w)
    | true =>
      simp only [hb] at hsw
      have hloc : X.env.scope.names.lookup x = some .local := by
        unfold swC at hb
        obtain ⟨h1, _, _⟩ := and3 hb
        rw [g.es]
        exact eq_of_beq h1
      cases e with
      | comp elt p it own =>
        have h := hv
        unfold chkE at h
        split at h <;> rename_i hh <;> first | (cases hh; done) | (cases h; done) | skip
        cases hh
        obtain ⟨h, h5⟩ := and2 h
        obtain ⟨h1, h2, h3, h4⟩ := and4 h
        refine ps_w (ps_setLc (g := tG X.K p) (tt := tYes) (te := tK X.K fun ρ => keepS (ev cl elt ρ)) (own := ownOf N own) g.calm hN hi' hloc hsw (snd_I it g h5) (by rw [g.eN, g.es]; exact blkOk_by h1) (fun s H C cs fp => pg_ (g.blk s H _ cs C fp) p _ h3) (fun s H C cs fp => pts_nil) (fun s H C cs fp => pe_k (snd_E elt (g.blk s H _ cs C fp) h4).1) (notSet_fold (chkI_set h5) _)) ?_
        rw [own_map]
        exact asg_w (comp_w (all_own h2)) g_nm_w
      | compIf elt p it own c =>
        have h := hv
        unfold chkE at h
        split at h <;> rename_i hh <;> first | (cases hh; done) | (cases h; done) | skip
        cases hh
        obtain ⟨h, h6⟩ := and2 h
        obtain ⟨h, h5⟩ := and2 h
        obtain ⟨h1, h2, h3, h4⟩ := and4 h
        refine ps_w (ps_setLc (g := tG X.K p) (tt := tT X.K (tv cl c)) (te := tK X.K fun ρ => keepS (ev cl elt ρ)) (own := ownOf N own) g.calm hN hi' hloc hsw (snd_I it g h6) (by rw [g.eN, g.es]; exact blkOk_by h1) (fun s H C cs fp => pg_ (g.blk s H _ cs C fp) p _ h3) (fun s H C cs fp => pts_one (snd_E c (g.blk s H _ cs C fp) h5).2) (fun s H C cs fp => pe_k (snd_E elt (g.blk s H _ cs C fp) h4).1) (notSet_fold (chkI_set h6) _)) ?_
        rw [own_map]
        exact asg_w (compIf_w (all_own h2)) g_nm_w
      | dcomp k v' p it own =>
        have h := hv
        unfold chkE at h
        split at h <;> rename_i hh <;> first | (cases hh; done) | (cases h; done) | skip
        cases hh
        obtain ⟨h, h6⟩ := and2 h
        obtain ⟨h, h5⟩ := and2 h
        obtain ⟨h1, h2, h3, h4⟩ := and4 h
        refine ps_w (ps_setDc (g := tG X.K p) (tt := tYes) (tk := tK X.K fun ρ => keepS (ev cl k ρ)) (tv := tK X.K fun ρ => keepS (ev cl v' ρ)) (own := ownOf N own) g.calm hN hi' hloc hsw (snd_I it g h6) (by rw [g.eN, g.es]; exact blkOk_by h1) (fun s H C cs fp => pg_ (g.blk s H _ cs C fp) p _ h3) (fun s H C cs fp => pts_nil) (fun s H C cs fp => pe_k (snd_E k (g.blk s H _ cs C fp) h4).1) (fun s H C cs fp => pe_k (snd_E v' (g.blk s H _ cs C fp) h5).1) (notSet_fold (chkI_set h6) _)) ?_
        rw [own_map]
        exact asg_w (dc_any (all_own h2)) g_nm_w
      | _ => cases v <;> first | (cases hc; done) | (cases hv; done)
def tupOk (sc : Scope) (ts : List Expr) : Expr → Bool
  | .Tuple vs _ _ => swN sc ts vs == some none
  | _ => true
/-- (a, b, ..) = value -/
theorem st_tup (g : Gd cl N sc sc X) (hk : sc.kind = .function) {fuel : Nat} {ps : Pats} {e : E} {ts : List Expr} {k : Nat} {tp : Pos} {v : Expr} {pos : Pos} (hp : chkPs N sc ps ts = true) (hv : chkE N sc e v = true) (hw : tupOk sc ts v = true) :
    PS X (.Assign [.Tuple ts k tp] v pos) (tSt X.K (ex cl fuel (.asg (.tp ps) e)) (asgS (.asg (.tp ps) e))) := by
  have hw' : swappedStores [.Tuple ts k tp] v X.env = pure none := by
    cases v with
    | Tuple vs k2 p2 =>
      have : swN sc ts vs = some none := eq_of_beq hw
      exact swN_ok this g.es hk
    | _ => rfl
  exact ps_w (ps_asg (snd_E e g hv).1 (pg_ g (.tp ps) (.Tuple ts k tp) hp) sw_tup hw' rfl) (asg_w (fun _ _ _ h => h) fun _ _ _ _ h => h)

/-! ### xs[k] = e -/
theorem st_setx (g : Gd cl N sc sc X) {fuel : Nat} {i : Nat} {k e : E} {o x v : Expr} {sp pos : Pos} (ho : chkNm N sc i o = true) (hx : chkE N sc k x = true) (hv : chkE N sc e v = true) :
    PS X (.Assign [.Subscript o x sp] v pos) (tSt X.K (ex cl fuel (.setx i k e)) []) := by
  have hbase : ∀ w, assign (.Subscript o x sp) X.env w = (do
      let ov ← holding [w] (eval o X.env)
      let iv ← holding [w, ov] (eval x X.env)
      standAt sp
      holding [w, ov, iv] (setItem ov iv w)
      release [w, ov, iv] []) := fun w => by
    cases x <;> first | rfl | (rw [chkE_slice] at hx; cases hx)
  refine ⟨fun pins s σ H D I hw => ?_⟩
  obtain ⟨S, F, ρ, out, en, h, kk⟩ := hw
  simp only [ex] at h
  obtain ⟨r, e1, h⟩ := bindS h
  obtain ⟨c1, h⟩ := iteS h
  obtain ⟨q, e2, h⟩ := bindS h
  obtain ⟨⟨fl0, d0⟩, hr0⟩ := Option.isSome_iff_exists.mp c1
  split at h
  · rename_i ds hr
    split at h
    · rename_i j hj
      obtain ⟨n, hn, rfl⟩ := mapS h
      refine (ps_asg (pe_k (snd_E e g hv).1) (pg_sub (pe_nm g ho) (pe_k (snd_E k g hx).1) set_list hbase) (by cases v <;> rfl) (by cases v <;> rfl) rfl).run pins s σ H D I ⟨S, F, ρ, r, en, e1, fun w H1 F1 p1 => ?_⟩
      obtain ⟨vo, hvo, _⟩ := p1.go.env.slot i fl0 d0 hr0
      refine ⟨vo, hvo, S, F1, r.2, q, p1.go.env, e2, fun u H2 F2 p2 => ?_⟩
      obtain ⟨a, xs, hv', hl, rs, hF⟩ := own_list p2.go.env hr
      rw [hvo] at hv'
      cases hv'
      have hu : u = .int j := by
        have := p2.rep
        rw [hj] at this
        exact this
      refine ⟨a, xs, j, n, rfl, hu, hl, by rw [← rs.length]; exact hn, ?_⟩
      obtain ⟨k1, k2⟩ := put_list p2.go.env (rd_lt hr) hvo hF (rs.set (p2.go.rep p1.rep) n)
      exact kk F2 σ _ (.of ⟨k1, (p1.go.trans p2.go).fr.trans k2, (p1.go.trans p2.go).sub⟩)
    · cases h
  · rename_i es hr
    obtain ⟨c2, h⟩ := iteS h
    cases h
    obtain ⟨c2, c3⟩ := and2 c2
    have c3 := of_decide_eq_true c3
    obtain ⟨kq, hkq⟩ := keyOf c2
    refine (ps_dput (by have := g.room; omega) (pe_nm g ho) (pe_k (snd_E k g hx).1) (pe_k (snd_E e g hv).1) sw_sub).run pins s σ H D I ⟨S, F, ρ, r, en, e1, fun w H1 F1 p1 => ?_⟩
    obtain ⟨vo, hvo, _⟩ := p1.go.env.slot i fl0 d0 hr0
    refine ⟨vo, hvo, S, F1, r.2, q, p1.go.env, e2, fun u H2 F2 p2 => ?_⟩
    obtain ⟨vo', hv', rr⟩ := p2.go.env.slot i _ _ hr
    rw [hvo] at hv'
    cases hv'
    generalize hA : F2 i = A at rr
    cases rr with
    | @dct a kvs _ e3 rk =>
      have hu : u = kV kq := by
        have := p2.rep
        rw [hkq] at this
        cases kq <;> exact this
      have hl : kvs.length < sizeLine := by
        rw [← rk.length]
        exact Nat.lt_of_lt_of_le c3 (lim_line (Nat.le_refl _))
      refine ⟨a, _, rfl, by rw [hu]; exact DPut.k e3 hl, ?_⟩
      have ha : a ∈ F2 i := by rw [hA]; exact List.mem_singleton.mpr rfl
      have k1 : EnvOk X.K S F2 (q.2.set i (some (.own, .dict (kvPut es q.1 r.1)))) σ (upd H2 a (.dK (putK kvs kq w))) := by
        refine p2.go.env.put (rd_lt hr) ha hvo (.inr ⟨_, upd_same⟩) ?_
        rw [hA, hkq]
        refine .dct upd_same ((rk.put (p2.go.rep p1.rep)).step (fun b o e n => ?_) fun b z => .inl z)
        rw [upd_ne fun z => n (.inr ⟨i, by rw [z]; exact ha⟩)]
        exact e
      exact kk F2 σ _ (.of ⟨k1, (p1.go.trans p2.go).fr.trans (Fr.put ha), (p1.go.trans p2.go).sub⟩)
  · cases h

/-! ### the check -/
section
variable (N : List Str) (sc : Scope)
def parOk (ts vs : List Expr) (names : List Str) : Bool := swN sc ts vs == some (some names)
def isLoc (x : Str) : Bool := sc.names.lookup x == some .local
mutual
def chkS : S → Stmt → Bool
  | .asg (.nm i) e, .Assign [.Name x _] v _ => decide (N[i]? = some x) && isSto sc x && chkE N sc e v
  | .asg (.tp ps) e, .Assign [.Tuple ts _ _] v _ => chkPs N sc ps ts && chkE N sc e v && tupOk sc ts v
  | .par (.cons (.nm i) (.cons (.nm j) .nil)) (.cons a (.cons b .nil)), .Assign [.Tuple [.Name x px, .Name y py] _ _] (.Tuple [u, v] _ _) _ =>
    decide (N[i]? = some x) && decide (N[j]? = some y) && decide (i ≠ j) && isLoc sc x && isLoc sc y && chkE N sc a u && chkE N sc b v && parOk sc [.Name x px, .Name y py] [u, v] [x, y]
  | .par (.cons (.nm i) (.cons (.nm j) (.cons (.nm l) .nil))) (.cons a (.cons b (.cons c .nil))), .Assign [.Tuple [.Name x px, .Name y py, .Name z pz] _ _] (.Tuple [u, v, w] _ _) _ =>
    decide (N[i]? = some x) && decide (N[j]? = some y) && decide (N[l]? = some z) && decide (i ≠ j) && decide (i ≠ l) && decide (j ≠ l) && isLoc sc x && isLoc sc y && isLoc sc z && chkE N sc a u && chkE N sc b v && chkE N sc c w && parOk sc [.Name x px, .Name y py, .Name z pz] [u, v, w] [x, y, z]
  | .setx i k e, .Assign [.Subscript o x _] v _ => chkNm N sc i o && chkE N sc k x && chkE N sc e v
  | .setf i k e, .Assign [.Subscript o (.Constant (.str y) _ _) _] v _ => chkNm N sc i o && decide (k = y) && chkE N sc e v
  | .ret e, .Return (some x) _ => chkE N sc e x
  | .retN, .Return none _ => true
  | .exp e, .Expr x _ => chkE N sc e x && (compScope x).isNone
  | .ifs c a b, .If x l m _ => chkE N sc c x && chkSs a l && chkSs b m
  | .whl c b, .While x l [] _ => chkE N sc c x && chkSs b l
  | .for_ p it b, .For tg x l [] _ => chkI N sc it x tg && chkP N sc p tg && chkSs b l
  | .never, _ => true
  | .pass, .Pass _ => true
  | .brk, .Break _ => true
  | .cnt, .Continue _ => true
  | _, _ => false
def chkSs : Ss → List Stmt → Bool
  | .nil, [] => true
  | .cons s r, x :: xs => chkS s x && chkSs r xs
  | .pull i j r, .Assign [.Name y _] (.Subscript n1 (.Constant (.str k1) _ _) _) _ :: .While (.BoolOp .And [.Compare (.Subscript n2 (.Constant (.str k2) _ _) _) [.Lt] [.Constant (.int m1) _ _] _, .Compare (.Call ln [n3] [] _) [.Gt] [.Constant (.int m2) _ _] _] _)
      [.Assign [.Subscript n4 (.Constant (.str k4) _ _) _] (.Call (.Attribute n5 k5 qi) [] [] qj) _] [] _ :: rest =>
    decide (N[j]? = some y) && isSto sc y && chkNm N sc i n1 && chkNm N sc i n2 && chkNm N sc j n3 && chkNm N sc i n4 && chkNm N sc j n5 && chkGl sc "len" ln && (qi.endLine == qj.line) && decide (k1 = "cells") && decide (k2 = "left") && decide (m1 = 2) && decide (m2 = 0) && decide (k4 = "left") && decide (k5 = "pop") && chkSs r rest
  | _, _ => false
end
end
theorem isLoc_ok {x : Str} (h : isLoc sc x = true) : sc.names.lookup x = some .local := eq_of_beq h
mutual
theorem snd_S (g : Gd cl N sc sc X) (hk : sc.kind = .function) (fuel : Nat) : ∀ (s : S) (x : Stmt), chkS N sc s x = true → PS X x (tSt X.K (ex cl fuel s) (asgS s))
  | .asg p e, x, h => by
    unfold chkS at h
    split at h <;> rename_i hh <;> first | (cases hh; done) | (cases h; done) | skip
    · cases hh
      obtain ⟨h1, h2, h3⟩ := and3 h
      exact st_set g hk (of_decide_eq_true h1) h2 h3
    · cases hh
      obtain ⟨h1, h2, h3⟩ := and3 h
      exact st_tup g hk h1 h2 h3
  | .par ps es, x, h => by
    have hN : X.N.Nodup := by rw [g.eN]; exact g.nd
    unfold chkS at h
    split at h <;> rename_i hh <;> first | (cases hh; done) | (cases h; done) | skip
    · cases hh
      simp only [Bool.and_eq_true] at h
      obtain ⟨⟨⟨⟨⟨⟨⟨h1, h2⟩, h3⟩, h4⟩, h5⟩, h6⟩, h7⟩, h8⟩ := h
      refine ps_w (ps_par g.calm hN (by rw [g.eN]; exact of_decide_eq_true h1) (by rw [g.eN]; exact of_decide_eq_true h2) (of_decide_eq_true h3) (by rw [g.es]; exact isLoc_ok h4) (by rw [g.es]; exact isLoc_ok h5) (pa_cons (snd_E _ g h6).1 (pa_cons (snd_E _ g h7).1 pa_nil (noStar h7 _ _)) (noStar h6 _ _)) (swN_ok (eq_of_beq h8) g.es hk) sw_tup) (par2_w (of_decide_eq_true h3))
    · cases hh
      simp only [Bool.and_eq_true] at h
      obtain ⟨⟨⟨⟨⟨⟨⟨⟨⟨⟨⟨⟨h1, h2⟩, h3⟩, h4⟩, h5⟩, h6⟩, h7⟩, h8⟩, h9⟩, hA⟩, hB⟩, hC⟩, hD⟩ := h
      exact ps_w (ps_par3 g.calm hN (by rw [g.eN]; exact of_decide_eq_true h1) (by rw [g.eN]; exact of_decide_eq_true h2) (by rw [g.eN]; exact of_decide_eq_true h3) (of_decide_eq_true h4) (of_decide_eq_true h5) (of_decide_eq_true h6) (by rw [g.es]; exact isLoc_ok h7) (by rw [g.es]; exact isLoc_ok h8) (by rw [g.es]; exact isLoc_ok h9) (pa_cons (snd_E _ g hA).1 (pa_cons (snd_E _ g hB).1 (pa_cons (snd_E _ g hC).1 pa_nil (noStar hC _ _)) (noStar hB _ _)) (noStar hA _ _)) (swN_ok (eq_of_beq hD) g.es hk) sw_tup) (par3_w (of_decide_eq_true h4) (of_decide_eq_true h5) (of_decide_eq_true h6))
  | .setx i k e, x, h => by
    unfold chkS at h
    split at h <;> rename_i hh <;> first | (cases hh; done) | (cases h; done) | skip
    cases hh
    obtain ⟨h1, h2, h3⟩ := and3 h
    exact st_setx g h1 h2 h3
  | .setf i k e, x, h => by
    unfold chkS at h
    split at h <;> rename_i hh <;> first | (cases hh; done) | (cases h; done) | skip
    cases hh
    obtain ⟨h1, h2, h3⟩ := and3 h
    have h2 := of_decide_eq_true h2
    subst h2
    exact st_setf g h1 h3
  | .ret e, x, h => by
    unfold chkS at h
    split at h <;> rename_i hh <;> first | (cases hh; done) | (cases h; done) | skip
    cases hh
    exact st_ret (snd_E e g h).1
  | .retN, x, h => by
    cases x with
    | Return v p =>
      cases v with
      | none => exact st_retN
      | some v => cases h
    | _ => cases h
  | .exp e, x, h => by
    unfold chkS at h
    split at h <;> rename_i hh <;> first | (cases hh; done) | (cases h; done) | skip
    cases hh
    obtain ⟨h1, h2⟩ := and2 h
    exact st_exp (snd_E e g h1).1 (sw_none (Option.isNone_iff_eq_none.mp h2))
  | .ifs c a b, x, h => by
    unfold chkS at h
    split at h <;> rename_i hh <;> first | (cases hh; done) | (cases h; done) | skip
    cases hh
    obtain ⟨h1, h2, h3⟩ := and3 h
    exact st_if (snd_E c g h1).2 (snd_Ss g hk fuel a _ h2) (snd_Ss g hk fuel b _ h3)
  | .whl c b, x, h => by
    unfold chkS at h
    split at h <;> rename_i hh <;> first | (cases hh; done) | (cases h; done) | skip
    cases hh
    obtain ⟨h1, h2⟩ := and2 h
    exact st_while g (snd_E c g h1).2 (snd_Ss g hk fuel b _ h2)
  | .for_ p it b, x, h => by
    unfold chkS at h
    split at h <;> rename_i hh <;> first | (cases hh; done) | (cases h; done) | skip
    cases hh
    obtain ⟨h1, h2, h3⟩ := and3 h
    exact st_for g (snd_I it g h1) h2 (notSet_fold (chkI_set h1) _) (snd_Ss g hk fuel b _ h3)
  | .never, x, h => st_never
  | .pass, x, h => by
    cases x with
    | Pass p => exact st_pass
    | _ => cases h
  | .brk, x, h => by
    cases x with
    | Break p => exact st_brk
    | _ => cases h
  | .cnt, x, h => by
    cases x with
    | Continue p => exact st_cnt
    | _ => cases h
theorem snd_Ss (g : Gd cl N sc sc X) (hk : sc.kind = .function) (fuel : Nat) : ∀ (s : Ss) (l : List Stmt), chkSs N sc s l = true → PSs X l (tSt X.K (exs cl fuel s) (asgSs s))
  | .nil, [], _ => st_nil
  | .nil, _ :: _, h => by cases h
  | .cons _ _, [], h => by cases h
  | .pull i j r, l, h => by
    unfold chkSs at h
    split at h <;> rename_i hh <;> first | (cases hh; done) | (cases h; done) | skip
    cases hh
    simp only [Bool.and_eq_true, decide_eq_true_eq] at h
    obtain ⟨⟨⟨⟨⟨⟨⟨⟨⟨⟨⟨⟨⟨⟨⟨a1, a2⟩, a3⟩, a4⟩, a5⟩, a6⟩, a7⟩, a8⟩, a9⟩, aA⟩, aB⟩, aC⟩, aD⟩, aE⟩, aF⟩, aG⟩ := h
    have ih := snd_Ss g hk fuel r _ aG
    subst aA aB aC aD aE aF
    refine st_pull g hk a1 a2 a3 a4 a5 a6 a7 a8 a9 ih
  | .cons s r, x :: xs, h => by
    obtain ⟨h1, h2⟩ := and2 (show (chkS N sc s x && chkSs N sc r xs) = true from h)
    exact st_cons (snd_S g hk fuel s x h1) (snd_Ss g hk fuel r xs h2)
end
end
end Mini

end
section
set_option Elab.async false
set_option linter.all false
set_option maxRecDepth 100000
set_option maxHeartbeats 4000000
/-! Mini, part 21: defs. -/
namespace Mini
open PySem PySem.Spec PyProof.Rows L2
section
variable {P : Program} {w : World} {K : PySem.W.Frag} {mg : Str → Option Value} {base : Heap}
/-- a def by its body, no guard around -/
theorem fn_ofG {k : Nat} {f : Addr} {name qual : Str} {params : Arguments} {body : List Stmt} {scope : Scope} {dV kV doc pm cdv ct oc : Value} {an od : Option Addr} {osl : Array (Option Value)} {N ps : List Str} {sp : Sp}
    (look : K.lookup f = some ⟨oc, od, .func (PySem.W.fnOf name qual params body scope dV kV doc pm an cdv ct), osl⟩) (code : PySem.W.codeIn K cdv qual = true) (sco : FnScope N ps scope) (len : ∀ vs H Q E, sp vs H Q E → vs.length = ps.length)
    (body_ok : ∀ (A : Around) (outer : List Env) (s : Shared) (H : Hp) (vs : List V) (Q : VK) (E : XK), Room k (A.deeper (envOfC qual scope s.heap.objs.size f cdv)) → A.guards = some [] → sp vs H Q E →
      ∃ t, PSs (cxOf CX0 P w K mg base N qual scope f cdv A outer s H E).nox body t ∧ t { nx := fun _ H' => Q .non H', rt := Q } (L2.start N vs) H) :
    FnG P w K mg base (k + 1) f (PySem.W.fnOf name qual params body scope dV kV doc pm an cdv ct) ps sp := by
  refine ⟨len, fun A outer s H args us vs Q E room hgu e0 hbind rel hsp => ?_⟩
  have lenv := len _ _ _ _ hsp
  have inK : K.In s.heap := e0.mod.kin.keeps fun c u q => (e0.bs c u q).1
  have nolim : s.heap.NoLimit := e0.mod.nolimit.keeps fun c u q => (e0.bs c u q).1
  have kinds : ∀ y ∈ ps.zip us, scope.names.lookup y.1 = some .local ∨ (scope.names.lookup y.1 = some .cell ∧ ((cellsFrom (s.heap.objs.size + 1) scope.names []).lookup y.1).isSome = true) := fun ⟨n, v⟩ hy =>
    (sco.par n (List.of_mem_zip hy).1).imp id fun q => ⟨q, PySem.W.cellsFrom_some _ _ _ (.inl q)⟩
  refine codeAny_call_function room.depth (inK _ _ look) rfl sco.co sco.gen rfl (PySem.W.codeRec_of inK code) (hbind _ _ _ _ (wpAny_newFunctionEnv_cells sco.kind kinds fun env he s1 x => ?_))
  subst he
  refine ⟨nolim.keeps x.toInCall.keep, codeAny_func ?_⟩
  obtain ⟨t, ht, hq⟩ := body_ok A outer s H vs Q E (room.deeper _) hgu hsp
  have I := inv_start (CX := CX0) (E := E) sco room.hd e0 lenv rel x
  refine wpAny_mono (ht.nox.run [] s1 (L2.start N vs) H _ I hq) (fun fl s' hs => ?_) fun e s' hs => hs
  have done : ∀ {σ' : L2.St} {H' : Hp} {v : V} {u : Value}, Inv (cxOf CX0 P w K mg base N qual scope f cdv A outer s H E) [] σ' H' s' → L2.RelV v u → Q v H' → CE outer P w H s Q u s' := fun {σ' H' v u} J rv q => ⟨v, H', J.os, J.bare, J.base, J.hok, rv, q⟩
  cases fl with
  | ret u =>
    obtain ⟨v, σ', H', J, rv, q⟩ := hs
    exact done J rv q
  | next =>
    obtain ⟨σ', H', J, q⟩ := hs
    exact done (v := V.non) (u := Value.none) J rfl q
  | brk => exact hs.elim fun _ q => q.elim fun _ q => q.2.elim
  | cont => exact hs.elim fun _ q => q.elim fun _ q => q.2.elim
end

/-! ### a def's meaning -/
def isTup : Dt → Bool
  | .tuple _ => true
  | _ => false
/-- what the arguments hold at the end -/
def outs (ρ' : En) : Nat → List Sl → Option (List Dt)
  | _, [] => some []
  | i, (fl, d) :: r => if fl = .sh then (outs ρ' (i + 1) r).map (d :: ·) else match rd ρ' i with
    | some (fl', o) => if fl' = fl ∧ isTup o = isTup d then (outs ρ' (i + 1) r).map (o :: ·) else none
    | none => none
/-- lent slots are not stored anew -/
def lentOk (asg : List Nat) : Nat → List Sl → Bool
  | _, [] => true
  | i, (fl, _) :: r => (decide (fl = .sh) || !(asg.contains i)) && lentOk asg (i + 1) r
def runDef (cl : CallS) (fuel np nN : Nat) (body : Ss) (as : List Sl) : Option (Sl × List Dt) :=
  if (decide (as.length = np) && lentOk (asgSs body) 0 as) = true then match exs cl fuel body (as.map some ++ List.replicate (nN - as.length) none) with
    | some (.nx ρ') => (outs ρ' 0 as).map fun os => ((.sh, .none), os)
    | some (.rt r ρ') => if okFl r.1 then (outs ρ' 0 as).map fun os => (r, os) else none
    | _ => none
  else none
theorem outs_ok {ρ' : En} : ∀ {as : List Sl} {i : Nat} {os : List Dt}, outs ρ' i as = some os → os.length = as.length ∧ ∀ (j : Nat) (fl : Fl) (d : Dt), as[j]? = some (fl, d) → ∃ o, os[j]? = some o ∧ (fl = .sh → o = d) ∧ (fl ≠ .sh → rd ρ' (i + j) = some (fl, o) ∧ isTup o = isTup d)
  | [], i, os, h => by cases h; exact ⟨rfl, fun j fl d h => by simp at h⟩
  | (fl0, d0) :: r, i, os, h => by
    simp only [outs] at h
    by_cases hs : fl0 = .sh
    · rw [if_pos hs] at h
      obtain ⟨os', h1, rfl⟩ := mapS h
      obtain ⟨l, k⟩ := outs_ok h1
      refine ⟨by simp [l], fun j fl d hj => ?_⟩
      cases j with
      | zero =>
        simp at hj
        obtain ⟨rfl, rfl⟩ := hj
        exact ⟨d0, rfl, fun _ => rfl, fun z => absurd hs z⟩
      | succ j =>
        obtain ⟨o, k1, k2, k3⟩ := k j fl d (by simpa using hj)
        refine ⟨o, by simpa using k1, k2, fun z => ?_⟩
        have e : i + (j + 1) = i + 1 + j := by omega
        rw [e]
        exact k3 z
    · rw [if_neg hs] at h
      split at h
      · rename_i fl' o hr
        obtain ⟨c, h⟩ := (show _ ∧ _ from by
          by_cases c : fl' = fl0 ∧ isTup o = isTup d0
          · rw [if_pos c] at h; exact ⟨c, h⟩
          · rw [if_neg c] at h; cases h)
        obtain ⟨os', h1, rfl⟩ := mapS h
        obtain ⟨l, k⟩ := outs_ok h1
        refine ⟨by simp [l], fun j fl d hj => ?_⟩
        cases j with
        | zero =>
          simp at hj
          obtain ⟨rfl, rfl⟩ := hj
          refine ⟨o, rfl, fun z => absurd z hs, fun _ => ⟨?_, c.2⟩⟩
          rw [Nat.add_zero, hr, c.1]
        | succ j =>
          obtain ⟨o', k1, k2, k3⟩ := k j fl d (by simpa using hj)
          refine ⟨o', by simpa using k1, k2, fun z => ?_⟩
          have e : i + (j + 1) = i + 1 + j := by omega
          rw [e]
          exact k3 z
      · cases h
theorem lentOk_ok {asg : List Nat} : ∀ {as : List Sl} {i : Nat}, lentOk asg i as = true → ∀ (j : Nat) (fl : Fl) (d : Dt), as[j]? = some (fl, d) → fl ≠ .sh → i + j ∉ asg
  | [], i, h, j, fl, d, hj, _ => by simp at hj
  | (fl0, d0) :: r, i, h, j, fl, d, hj, hs => by
    obtain ⟨h1, h2⟩ := and2 (show ((decide (fl0 = .sh) || !(asg.contains i)) && lentOk asg (i + 1) r) = true from h)
    cases j with
    | zero =>
      simp at hj
      obtain ⟨rfl, rfl⟩ := hj
      simp [hs] at h1
      simpa using h1
    | succ j =>
      have := lentOk_ok h2 j fl d (by simpa using hj) hs
      have e : i + (j + 1) = i + 1 + j := by omega
      rw [e]
      exact this
theorem rd_some {as : List Sl} {j : Nat} {x : Sl} : rd (as.map some) j = some x ↔ as[j]? = some x := by
  unfold rd
  rw [List.getElem?_map]
  cases as[j]? <;> simp
theorem rd_app {as : List Sl} {n j : Nat} : rd (as.map some ++ List.replicate n none) j = rd (as.map some) j := by
  unfold rd
  by_cases h : j < as.length
  · rw [List.getElem?_append_left (by simpa using h)]
  · rw [List.getElem?_append_right (by simpa using h), List.getElem?_replicate, List.getElem?_eq_none (l := as.map some) (by simpa using h)]
    split <;> rfl
section
variable {K : PySem.W.Frag} {S : Addr → Prop} {F F' : Fs} {as : List Sl} {vs : List V} {H H' : Hp} {σ' : L2.St} {ρ' : En}
theorem env_app (e : EnvOk K S F (as.map some) (vs.map some) H) (n : Nat) : EnvOk K S F (as.map some ++ List.replicate n none) (vs.map some ++ List.replicate n none) H := by
  have hl : as.length = vs.length := by simpa using e.len
  refine ⟨by simp [hl], fun j fl d h => ?_, fun j h => ?_, e.dis, e.ext, e.wf⟩
  · rw [rd_app] at h
    obtain ⟨v, hv, r⟩ := e.slot j fl d h
    refine ⟨v, ?_, r⟩
    have hj : j < (vs.map some).length := (List.getElem?_eq_some_iff.mp hv).1
    rw [List.getElem?_append_left hj]
    exact hv
  · rw [rd_app] at h
    exact e.emp j h
theorem outEn_get {os : List Dt} (hl : os.length = as.length) {j : Nat} {fl : Fl} {d o : Dt} (h : as[j]? = some (fl, d)) (ho : os[j]? = some o) : rd (outEn as os) j = some (fl, if fl = .sh then d else o) := by
  unfold rd outEn
  rw [List.getElem?_zipWith, h, ho]
  rfl
theorem outEn_none {os : List Dt} {j : Nat} (hl : os.length = as.length) (h : rd (outEn as os) j = none) : as[j]? = none := by
  cases q : as[j]? with
  | none => rfl
  | some x =>
    obtain ⟨fl, d⟩ := x
    have hj : j < as.length := (List.getElem?_eq_some_iff.mp q).1
    rw [outEn_get hl q (List.getElem?_eq_getElem (by omega))] at h
    cases h
/-- a def's end -/
theorem fn_end {asg : List Nat} {r : Sl} {os : List Dt} {v : V} {A : List Addr} {n : Nat} (e : EnvOk K S F (as.map some) (vs.map some) H) (hl : lentOk asg 0 as = true) (ho : outs ρ' 0 as = some os)
    (p : RtS K S F (vs.map some ++ List.replicate n none) H asg r ρ' v F' σ' H' A) : FnPost K S F as vs H (r, os) v H' A := by
  obtain ⟨lo, ko⟩ := outs_ok ho
  have hlen : as.length = vs.length := by simpa using e.len
  have empty : ∀ j d, as[j]? = some (.sh, d) → F j = [] := fun j d h => by
    obtain ⟨v, _, q⟩ := e.slot j .sh d (rd_some.mpr h)
    generalize F j = B at q
    cases q
    rfl
  -- the lent slots' objects are the ones of the beginning
  have same : ∀ j fl d, as[j]? = some (fl, d) → fl ≠ .sh → F' j = F j := fun j fl d h hs => by
    have na := lentOk_ok hl j fl d h hs
    rw [Nat.zero_add] at na
    rcases (p.sub j na).1 with q | q
    · exact q
    · obtain ⟨o, _, _, k3⟩ := ko j fl d h
      obtain ⟨k3, k4⟩ := k3 hs
      rw [Nat.zero_add] at k3
      obtain ⟨v2, _, r2⟩ := p.env.slot j fl o k3
      obtain ⟨v1, _, r1⟩ := e.slot j fl d (rd_some.mpr h)
      rw [q] at r2 ⊢
      generalize F j = B at r1
      cases r1 with
      | sh _ => exact absurd rfl hs
      | lst _ _ => cases r2
      | dct _ _ => cases r2
      | src _ _ _ =>
        cases r2 with
        | scr _ => cases k4
      | scr _ => rfl
  have lent : ∀ j a, a ∈ F j → ∃ fl d, as[j]? = some (fl, d) ∧ fl ≠ .sh := fun j a ha => by
    cases q : as[j]? with
    | none =>
      have : rd (as.map some) j = none := by
        unfold rd
        rw [List.getElem?_map, q]
        rfl
      rw [e.emp j this] at ha
      cases ha
    | some x =>
      obtain ⟨fl, d⟩ := x
      refine ⟨fl, d, rfl, fun z => ?_⟩
      subst z
      rw [empty j d q] at ha
      cases ha
  have sub : ∀ j a, a ∈ F j → a ∈ F' j := fun j a ha => by
    obtain ⟨fl, d, h1, h2⟩ := lent j a ha
    rw [same j fl d h1 h2]
    exact ha
  have new : ∀ a ∈ A, H a = none := fun a ha => by
    rcases p.new a ha with ⟨j, hj⟩ | h
    · exact absurd (.inr ha) (p.env.ext j a (sub j a hj))
    · exact h
  have wt : ∀ a, Wt (addS S A) F a → Wt (addS S A) F' a := fun a z => z.imp id fun ⟨j, z⟩ => ⟨j, sub j a z⟩
  have wt0 : ∀ a, Wt (addS S A) F a → Wt S F a ∨ H a = none := fun a z => by
    rcases z with (z | z) | z
    · exact .inl (.inl z)
    · exact .inr (new a z)
    · exact .inl (.inr z)
  refine ⟨lo, p.ok, p.fr.keep, p.fr.there, new, ⟨by simp [outEn, lo, hlen], fun j fl d h => ?_, fun j h => ?_, e.dis, fun j a ha => p.env.ext j a (sub j a ha), p.env.wf⟩, p.res.mono wt p.env.wt⟩
  · cases q : as[j]? with
    | none =>
      have hj : as.length ≤ j := List.getElem?_eq_none_iff.mp q
      have h' : (outEn as os)[j]?.join = some (fl, d) := h
      rw [List.getElem?_eq_none (by simp [outEn, lo]; omega)] at h'
      cases h'
    | some x =>
      obtain ⟨fl0, d0⟩ := x
      obtain ⟨o, k1, k2, k3⟩ := ko j fl0 d0 q
      rw [outEn_get lo q k1] at h
      cases h
      by_cases hs : fl = .sh
      · subst hs
        obtain ⟨v1, hv1, r1⟩ := e.slot j .sh d0 (rd_some.mpr q)
        refine ⟨v1, hv1, ?_⟩
        rw [if_pos rfl]
        have eF := empty j d0 q
        rw [eF] at r1 ⊢
        cases r1 with
        | sh r1 => exact .sh (r1.step (fun b u z n => p.fr.keep b u z fun i hi => n (.inr ⟨i, hi⟩)) wt0)
      · rw [if_neg hs]
        obtain ⟨k3, _⟩ := k3 hs
        rw [Nat.zero_add] at k3
        obtain ⟨v1, hv1, r1⟩ := p.env.slot j fl o k3
        have na := lentOk_ok hl j fl d0 q hs
        rw [Nat.zero_add] at na
        rw [(p.sub j na).2] at hv1
        have hj : j < (vs.map some).length := by
          have := (List.getElem?_eq_some_iff.mp q).1
          simp only [List.length_map]
          omega
        rw [List.getElem?_append_left hj] at hv1
        refine ⟨v1, hv1, ?_⟩
        rw [← same j fl d0 q hs]
        exact r1.mono wt p.env.wt
  · refine e.emp j ?_
    unfold rd
    rw [List.getElem?_map, outEn_none lo h]
    rfl
end
theorem runDef_ok {K : PySem.W.Frag} {cl : CallS} {fuel np : Nat} {N : List Str} {body : Ss} {vs : List V} {H : Hp} {Q : VK} {E : XK} (h : spD K (runDef cl fuel np N.length body) vs H Q E) :
    tSt K (exs cl fuel body) (asgSs body) { nx := fun _ H' => Q .non H', rt := Q } (L2.start N vs) H := by
  obtain ⟨S, F, as, r, e, h1, k⟩ := h
  have hlen : as.length = vs.length := by simpa using e.len
  unfold runDef at h1
  obtain ⟨c, h1⟩ := iteS h1
  obtain ⟨_, c2⟩ := and2 c
  have e2 := env_app e (N.length - as.length)
  have hst : L2.start N vs = vs.map some ++ List.replicate (N.length - as.length) none := by unfold L2.start; rw [hlen]
  rw [hst]
  cases hx : exs cl fuel body (as.map some ++ List.replicate (N.length - as.length) none) with
  | none => rw [hx] at h1; cases h1
  | some o =>
    rw [hx] at h1
    refine ⟨S, F, _, o, e2, hx, ?_⟩
    cases o with
    | nx ρ' =>
      obtain ⟨os, ho, rfl⟩ := mapS h1
      exact fun F' σ' H' g => k .non H' [] (fn_end (n := N.length - as.length) e c2 ho ⟨g.env.nil, rfl, .sh rfl, g.fr, g.sub, fun a ha => (by cases ha), fun a ha => (by cases ha)⟩)
    | rt r1 ρ' =>
      obtain ⟨c3, h1⟩ := iteS (show (if okFl r1.1 = true then (outs ρ' 0 as).map (fun os => (r1, os)) else none) = some r from h1)
      obtain ⟨os, ho, rfl⟩ := mapS h1
      exact fun v F' σ' H' A g => k v H' A (fn_end (n := N.length - as.length) e c2 ho g)
    | bk ρ' => cases h1
    | ct ρ' => cases h1
theorem runDef_len {K : PySem.W.Frag} {cl : CallS} {fuel np nN : Nat} {body : Ss} {vs : List V} {H : Hp} {Q : VK} {E : XK} (h : spD K (runDef cl fuel np nN body) vs H Q E) : vs.length = np := by
  obtain ⟨S, F, as, r, e, h1, k⟩ := h
  unfold runDef at h1
  obtain ⟨c, h1⟩ := iteS h1
  obtain ⟨c, _⟩ := and2 c
  have hlen : as.length = vs.length := by simpa using e.len
  rw [← hlen]
  exact of_decide_eq_true c

/-! ### the table of defs -/
structure Df where
  ps : List Str
  N : List Str
  body : Ss
def callF (tbl : Str → Option Df) (ext : CallS) (fuel : Nat) : Nat → CallS
  | 0 => ext
  | k + 1 => fun f as => match tbl f with
    | some d => runDef (callF tbl ext fuel k) fuel d.ps.length d.N.length d.body as
    | none => ext f as
def Tbl (P : Program) (w : World) (K : PySem.W.Frag) (mg : Str → Option Value) (base : Heap) (k : Nat) (cl : CallS) : Prop :=
  ∀ f as r, cl f as = some r → ∃ a fd ps, mg f = some (.ref a) ∧ PySem.W.keepIn K (.ref a) = true ∧ Binds K fd ps [] ∧ FnG P w K mg base k a fd ps (spD K (cl f))
/-- a def of the text that a table's row tells -/
structure DefOk (K : PySem.W.Frag) (mg : Str → Option Value) (f : Str) (d : Df) : Prop where
  ex : ∃ (x qual : Str) (params : Arguments) (body : List Stmt) (scope : Scope) (a : Addr) (fd : FuncData), mg f = some (.ref a) ∧ FunD K x qual params body scope [] [] a fd ∧ Binds K fd d.ps [] ∧ FnScope d.N d.ps scope ∧ chkSs d.N scope d.body body = true
section
variable {P : Program} {w : World} {K : PySem.W.Frag} {mg : Str → Option Value} {base : Heap}
theorem FnG.mini {cl : CallS} {fuel k : Nat} {x qual : Str} {params : Arguments} {body : List Stmt} {scope : Scope} {a : Addr} {fd : FuncData} {d : Df} (hT : Tbl P w K mg base k cl) (free : ∀ x ∈ freeN, mg x = none)
    (D : FunD K x qual params body scope [] [] a fd) (sco : FnScope d.N d.ps scope) (chk : chkSs d.N scope d.body body = true) : FnG P w K mg base (k + 1) a fd d.ps (spD K (runDef cl fuel d.ps.length d.N.length d.body)) := by
  obtain ⟨oc, od, dV, kV, doc, pm, an, cdv, ct, osl, rfl, lk, hcd, _, _⟩ := D.ex
  refine fn_ofG lk hcd sco (fun vs H Q E h => runDef_len h) fun A outer s H vs Q E hr hgu hsp => ?_
  refine ⟨_, snd_Ss (cl := cl) (N := d.N) (sc := scope) ⟨rfl, sco.nd, rfl, rfl, rfl, hgu, ?_, fun y h => ⟨h, .inl rfl⟩, free, fun f as r h => ?_⟩ sco.kind fuel d.body body chk, runDef_ok hsp⟩
  · have := hr.un
    show (A.deeper _).units + 100 < cLine
    omega
  · obtain ⟨a', fd', ps', h1, h2, h3, h4⟩ := hT f as r h
    exact ⟨k, a', fd', ps', h1, h2, h3, hr, h4⟩
theorem Tbl.mono {cl : CallS} {j k : Nat} (h : Tbl P w K mg base j cl) (hjk : j ≤ k) : Tbl P w K mg base k cl := fun f as r e => by
  obtain ⟨a, fd, ps, h1, h2, h3, h4⟩ := h f as r e
  exact ⟨a, fd, ps, h1, h2, h3, h4.mono hjk⟩
theorem tbl_ok {tbl : Str → Option Df} {ext : CallS} {fuel k0 : Nat} (hE : Tbl P w K mg base k0 ext) (free : ∀ x ∈ freeN, mg x = none) (hD : ∀ f d, tbl f = some d → DefOk K mg f d) : ∀ k, Tbl P w K mg base (k0 + k) (callF tbl ext fuel k)
  | 0 => hE
  | k + 1 => fun f as r h => by
    cases ht : tbl f with
    | none =>
      have e : callF tbl ext fuel (k + 1) f = ext f := by
        funext as
        show (match tbl f with | some d => _ | none => ext f as) = _
        rw [ht]
      rw [e] at h ⊢
      exact (hE.mono (Nat.le_add_right k0 (k + 1))) f as r h
    | some d =>
      have e : callF tbl ext fuel (k + 1) f = runDef (callF tbl ext fuel k) fuel d.ps.length d.N.length d.body := by
        funext as
        show (match tbl f with | some d => _ | none => ext f as) = _
        rw [ht]
      obtain ⟨x, qual, params, body, scope, a, fd, h1, h2, h3, h4, h5⟩ := (hD f d ht).ex
      rw [e]
      exact ⟨a, fd, d.ps, h1, h2.kp, h3, FnG.mini (tbl_ok hE free hD k) free h2 h4 h5⟩
end
end Mini

end
section
set_option Elab.async false
set_option linter.all false
set_option maxRecDepth 100000
set_option maxHeartbeats 4000000
/-! Mini, part 22: the law's end. -/
namespace Mini
open PySem PySem.Spec PyProof.Rows L2
/-- the heap behind the top, of which only the script is told, and what a def's promise gives there -/
theorem end_core {P : Program} {w : World} {K : PySem.W.Frag} {mg mb : Str → Option Value} {k : Nat} {fa a : Addr} {fd : FuncData} {x : Str} {sp : Sp} {s₁ : Shared} {vs : List Value} {H : Hp}
    (inK : K.In s₁.heap) (nsG : s₁.heap.Ns mainGlobals mg) (nsB : s₁.heap.Ns builtinsNs mb) (boot : ∀ x : Str, x ≠ "__name__" → mb x = bootBuiltins x) (nolim : s₁.heap.NoLimit) (gens : s₁.gens = #[])
    (ha : s₁.heap.get? a = some { cls := .type "list", data := .seq vs.toArray }) (room : Room k callerA) (F : ∀ base : Heap, K.In base → base.Ns mainGlobals mg → FnG P w K mg base k fa fd [x] sp)
    (bind1 : ∀ (s : Shared) (u : Value), BindsTo s fd ⟨[u], []⟩ [(x, u)]) (only : Only H) (hsp : sp [.ref a] H (fun v _ => v = .bl true) fun _ _ _ => False) (hok : HOk P w H s₁.heap) (told : ∀ b, H b ≠ none → b = a) (free : H a ≠ none → K.lookup a = none) :
    codeAny (model P w) callerA (.call (.ref fa) ⟨[.ref a], []⟩) (fun r s' => r = .ok (.ret (.bool true)) ∧ OldK s₁.heap s'.heap ∧ s'.os = s₁.os ∧ AllBare s'.gens) s₁ := by
  have stays : ∀ {b : Addr} {o : Obj}, s₁.heap.get? b = some o → H b = none → (hidT s₁.heap H).get? b = some o := fun q n => hidT_get q n
  have untold : ∀ {b : Addr}, b ≠ a → H b = none := fun {b} hb => by
    cases q : H b with
    | none => rfl
    | some u => exact absurd (told b (by rw [q]; exact Option.some_ne_none _)) hb
  have dictFree : ∀ {b : Addr} {o : Obj} {es : Array DictEntry} {n : Nat}, s₁.heap.get? b = some o → o.data = .dict es n → H b = none := fun {b o es n} q hd => untold fun z => by
    rw [z, ha] at q
    have q' := Option.some.inj q
    subst q'
    cases hd
  have nsK : ∀ {b : Addr} {m : Str → Option Value}, s₁.heap.Ns b m → (hidT s₁.heap H).Ns b m := fun {b m} hn => by
    obtain ⟨o, es, n, q, hd, r⟩ := hn
    exact ⟨o, es, n, stays q (dictFree q hd), hd, r⟩
  have inH : K.In (hidT s₁.heap H) := fun b o q => stays (inK b o q) (by
    by_cases hb : b = a
    · subst hb
      cases z : H b with
      | none => rfl
      | some u =>
        rw [free (by rw [z]; exact Option.some_ne_none _)] at q
        cases q
    · exact untold hb)
  have modH : Mod K mg (hidT s₁.heap H) := by
    obtain ⟨mc, l1, l2⟩ := nolim
    exact ⟨inH, nsK nsG, ⟨mb, nsK nsB, boot⟩, mc, nsK l1, l2⟩
  have env0 : Env0 P w K mg (hidT s₁.heap H) callerA [] s₁ H :=
    ⟨rfl, modH, fun b o q => of_hidT q, Nat.le_of_eq (hidT_size _ _), trivial, fun b hb => (by cases (show b ∈ ([] : List Addr) from hb)), hok, .of_eq gens⟩
  refine codeAny_mono ((F _ inH (nsK nsG)).run callerA [] s₁ H ⟨[.ref a], []⟩ [.ref a] [.ref a] _ _ room rfl env0 (bind1 s₁ (.ref a)) (.cons rfl .nil) hsp) fun r s' h => ?_
  cases r with
  | error e => exact False.elim h
  | ok fl =>
    cases fl with
    | ret u =>
      obtain ⟨v, H', os, bare, un, hok', rv, q⟩ := h
      have q' : v = .bl true := q
      subst q'
      obtain rfl : u = Value.bool true := rv
      refine ⟨rfl, OldK.of_keep fun b o e => ?_, os, bare⟩
      cases z : H b with
      | none => exact un.keep b o e z (fun m => by cases (show b ∈ ([] : List Addr) from m)) (by simp)
      | some u =>
        rcases only b with y | ⟨ob, xs, y⟩
        · rw [z] at y; cases y
        · obtain ⟨e1, _⟩ := hok b _ y
          obtain ⟨e2, _⟩ := hok' b _ (un.frzs b ob _ y)
          rw [e] at e1
          rw [Option.some.inj e1]
          exact e2
    | next => exact False.elim h
    | brk => exact False.elim h
    | cont => exact False.elim h
theorem end_call {P : Program} {w : World} {K : PySem.W.Frag} {mg mb : Str → Option Value} {k : Nat} {fa a : Addr} {fd : FuncData} {x : Str} {sp : Sp} {s₁ : Shared} {vs : List Value} {ns : List Int}
    (inK : K.In s₁.heap) (nsG : s₁.heap.Ns mainGlobals mg) (nsB : s₁.heap.Ns builtinsNs mb) (boot : ∀ x : Str, x ≠ "__name__" → mb x = bootBuiltins x) (nolim : s₁.heap.NoLimit) (gens : s₁.gens = #[])
    (ha : s₁.heap.get? a = some { cls := .type "list", data := .seq vs.toArray }) (hi : IntsAre vs ns) (len : ns.length ≤ sizeLine) (room : Room k callerA) (F : ∀ base : Heap, K.In base → base.Ns mainGlobals mg → FnG P w K mg base k fa fd [x] sp)
    (bind1 : ∀ (s : Shared) (u : Value), BindsTo s fd ⟨[u], []⟩ [(x, u)]) (hsp : ∀ H : Hp, Only H → SqL K H a (ns.map V.int) → sp [.ref a] H (fun v _ => v = .bl true) fun _ _ _ => False) :
    codeAny (model P w) callerA (.call (.ref fa) ⟨[.ref a], []⟩) (fun r s' => r = .ok (.ret (.bool true)) ∧ OldK s₁.heap s'.heap ∧ s'.os = s₁.os ∧ AllBare s'.gens) s₁ := by
  have rel := vals_ints hi
  have vlen := hi.length
  cases hk : K.lookup a with
  | some o =>
    have q := inK a o hk
    rw [ha] at q
    have q' := Option.some.inj q
    subst q'
    have o1 : Only (fun _ => none) := fun _ => .inl rfl
    refine end_core (H := fun _ => none) inK nsG nsB boot nolim gens ha room F bind1 o1 (hsp _ o1 (.inr ⟨_, vs.toArray, _, hk, rfl, rfl, rfl, by rw [List.size_toArray, vlen]; exact len, by simpa using rel⟩)) (fun b u z => (by cases (show (none : Option HO) = some u from z))) (fun b z => absurd rfl z) fun z => absurd rfl z
  | none =>
    let Hs : Hp := fun b => if b = a then some (.frz { cls := .type "list", data := .seq vs.toArray } (.lst (ns.map V.int))) else none
    have ha' : Hs a = some (.frz { cls := .type "list", data := .seq vs.toArray } (.lst (ns.map V.int))) := if_pos rfl
    have hn : ∀ b, b ≠ a → Hs b = none := fun b hb => if_neg hb
    have o1 : Only Hs := fun b => by
      by_cases hb : b = a
      · exact .inr ⟨_, _, by rw [hb]; exact ha'⟩
      · exact .inl (hn b hb)
    refine end_core (H := Hs) inK nsG nsB boot nolim gens ha room F bind1 o1 (hsp _ o1 (.inl (.inr ⟨_, ha'⟩))) (fun b u z => ?_) (fun b z => ?_) fun _ => hk
    · by_cases hb : b = a
      · subst hb
        rw [ha'] at z
        have z' := Option.some.inj z
        subst z'
        exact ⟨ha, by rw [List.length_map]; exact len, vs, _, rel, ha⟩
      · rw [hn b hb] at z; cases z
    · by_cases hb : b = a
      · exact hb
      · exact absurd (hn b hb) z
/-- the goal that the head leaves, from a def's promise -/
theorem walk_G {l : PySem.W.OpenLaw} {n k : Nat} {q : Program} {loose : List Str} {XP : (Str → Option Value) → Heap → Prop} {YP : World → Heap → Prop} {d : DefRec} {x : Str} (hn : l.most = some n) (hn2 : n ≤ sizeLine) (hdf : d.params.defaults = []) (room : Room k callerA)
    (F : ∀ (w : World) (mg : Str → Option Value) (fa : Addr) (h : Heap), YP w h → h.Ns mainGlobals mg → mg d.name = some (.ref fa) → ∃ (K : PySem.W.Frag) (fd : FuncData) (sp : Sp), K.In h ∧ (∀ (s : Shared) (u : Value), BindsTo s fd ⟨[u], []⟩ [(x, u)]) ∧
      (∀ (H : Hp) (a : Addr) (ns : List Int), ns.length ≤ n → Only H → SqL K H a (ns.map V.int) → sp [.ref a] H (fun v _ => v = .bl true) fun _ _ _ => False) ∧ ∀ base : Heap, K.In base → base.Ns mainGlobals mg → FnG l.prog w K mg base k fa fd [x] sp) :
    PySem.W.WalkO q loose XP YP l.row.toRowW d [] (fun f vs => PySem.call f vs) := by
  refine Att.attach_call hn hdf fun w s₀ s₁ mg mb fa o pm cd doc a vs ns G Y ho hd hcd hmg hobj hints hlen hg => ?_
  obtain ⟨K, fd, sp, inK, hb, hs, hF⟩ := F w mg fa _ Y G.T.g hmg
  exact end_call inK G.T.g G.T.b G.T.builtins G.T.nolimit hg hobj hints (Nat.le_trans hlen hn2) room hF hb fun H hO hS => hs H a ns hlen hO hS
/-- the law's def, asked of the script -/
theorem law_sp {K : PySem.W.Frag} {φ : List Sl → Option (Sl × List Dt)} {H : Hp} {a : Addr} {ns : List Int} (only : Only H) (hS : SqL K H a (ns.map V.int)) (h : ∃ os, φ [(.src, .list (ns.map .int))] = some ((.sh, .bool true), os)) :
    spD K φ [.ref a] H (fun v _ => v = .bl true) fun _ _ _ => False := by
  obtain ⟨os, h⟩ := h
  have hs : SlotRep K (Wt (fun _ => False) fun _ => []) H .src (.ref a) (.list (ns.map .int)) [] := by
    refine .scr ?_
    rcases hS with (h1 | h1) | h1
    · rcases only a with z | ⟨o, xs, z⟩ <;> (rw [h1] at z; cases z)
    · exact .inl h1
    · exact .inr h1
  refine ⟨fun _ => False, fun _ => [], [(.src, .list (ns.map .int))], _, ⟨rfl, fun i fl d q => ?_, fun _ _ => rfl, fun i j b z => (by cases z), fun i b z => (by cases z), fun b z => z.elim⟩, h, fun v H' A p => ?_⟩
  · cases i with
    | zero =>
      cases q
      exact ⟨_, rfl, hs⟩
    | succ i => cases q
  · cases p.res with
    | sh r => exact r
end Mini

end
section
set_option Elab.async false
set_option linter.all false
set_option maxRecDepth 100000
set_option maxHeartbeats 4000000
/-! Plain, part 1: the interpreter's loops, plainly. -/
namespace Mini
open PySem
/-- a tuple, a list of ints -/
abbrev tI_ (ns : List Int) : Dt := .tuple (ns.map .int)
abbrev lI_ (ns : List Int) : Dt := .list (ns.map .int)
theorem forL_nil {f : En → Dt → Option Out} {ρ : En} : forL f [] ρ = some (.nx ρ) := rfl
theorem forL_fold {α : Type} {f : En → Dt → Option Out} (enc : α → En) (step : α → Dt → α) (I : α → Prop) : ∀ (ds : List Dt) (s : α), I s → (∀ s d, I s → d ∈ ds → f (enc s) d = some (.nx (enc (step s d))) ∧ I (step s d)) →
    forL f ds (enc s) = some (.nx (enc (ds.foldl step s))) ∧ I (ds.foldl step s)
  | [], s, hI, _ => ⟨rfl, hI⟩
  | d :: ds, s, hI, h => by
    obtain ⟨h1, h2⟩ := h s d hI (List.mem_cons_self ..)
    simp only [forL, h1]
    exact forL_fold enc step I ds _ h2 fun s d hs hd => h s d hs (List.mem_cons_of_mem _ hd)
theorem compL_map {f : En → Dt → Option (Option Dt × En)} {ρ : En} (g : Dt → Dt) : ∀ ds : List Dt, (∀ d ∈ ds, f ρ d = some (some (g d), ρ)) → compL f ds ρ = some (ds.map g, ρ)
  | [], _ => rfl
  | d :: ds, h => by
    have h1 := h d (List.mem_cons_self ..)
    have h2 := compL_map g ds fun d hd => h d (List.mem_cons_of_mem _ hd)
    simp only [compL, h1, Option.bind_some, h2, Option.map_some]
    rfl
theorem compL_some {f : En → Dt → Option (Option Dt × En)} {ρ : En} (g : Dt → Option Dt) : ∀ ds : List Dt, (∀ d ∈ ds, f ρ d = some (g d, ρ)) → compL f ds ρ = some (ds.filterMap g, ρ)
  | [], _ => rfl
  | d :: ds, h => by
    have h1 := h d (List.mem_cons_self ..)
    have h2 := compL_some g ds fun d hd => h d (List.mem_cons_of_mem _ hd)
    simp only [compL, h1, Option.bind_some, h2, Option.map_some, List.filterMap_cons]
    cases g d <;> rfl
theorem allI_ints (ns : List Int) : allI (ns.map .int) = some ns := by
  induction ns with
  | nil => rfl
  | cons n ns ih =>
    unfold allI at ih ⊢
    simp only [List.map_cons, List.mapM_cons, ih]
    rfl
/-- a loop by turns: while the test stands -/
theorem whL_step {c : En → Option (Bool × En)} {f : En → Option Out} {n : Nat} {ρ ρ1 ρ2 : En} (hc : c ρ = some (true, ρ1)) (hf : f ρ1 = some (.nx ρ2)) : whL c f (n + 1) ρ = whL c f n ρ2 := by
  simp only [whL, hc, hf]
theorem whL_end {c : En → Option (Bool × En)} {f : En → Option Out} {n : Nat} {ρ ρ1 : En} (hc : c ρ = some (false, ρ1)) : whL c f (n + 1) ρ = some (.nx ρ1) := by
  simp only [whL, hc]
theorem mul_small {i j : Int} (h : j.natAbs < 2 ^ 64) : mulOk i j = true := by
  unfold mulOk
  simp [h]
theorem mul_small' {i j : Int} (h : i.natAbs < 2 ^ 64) : mulOk i j = true := by
  unfold mulOk
  simp [h]
end Mini

end
section
set_option Elab.async false
set_option linter.all false
set_option maxRecDepth 100000
set_option maxHeartbeats 4000000
/-! Plain, part 2: one statement, one rule. -/
namespace Mini
open PySem
section
variable {cl : CallS} {fuel : Nat} {ρ ρ1 ρ' : En} {rest : Ss}
theorem forL_nx {f : En → Dt → Option Out} {x : Dt} {xs : List Dt} (h : f ρ x = some (.nx ρ')) : forL f (x :: xs) ρ = forL f xs ρ' := by simp only [forL, h]
theorem forL_rt {f : En → Dt → Option Out} {x : Dt} {xs : List Dt} {r : Sl} (h : f ρ x = some (.rt r ρ')) : forL f (x :: xs) ρ = some (.rt r ρ') := by simp only [forL, h]
/-- a for's turn -/
abbrev turnF (cl : CallS) (fuel : Nat) (p : Pat) (b : Ss) : En → Dt → Option Out := fun ρ' x => (bind p (.sh, x) ρ').bind (exs cl fuel b)
theorem turn_ok {p : Pat} {b : Ss} {x : Dt} {o : Option Out} (h1 : bind p (.sh, x) ρ = some ρ1) (h2 : exs cl fuel b ρ1 = o) : turnF cl fuel p b ρ x = o := by
  show (bind p (.sh, x) ρ).bind (exs cl fuel b) = o
  rw [h1]
  exact h2
theorem exs_nil : exs cl fuel .nil ρ = some (.nx ρ) := rfl
theorem exs_asg {p : Pat} {e : E} {r : Sl × En} (h1 : ev cl e ρ = some r) (h2 : bind p r.1 r.2 = some ρ') : exs cl fuel (.cons (.asg p e) rest) ρ = exs cl fuel rest ρ' := by
  simp only [exs, ex, h1, Option.bind_some, h2, Option.map_some]
theorem exs_par {ps : Pats} {es : Es} {r : List Sl × En} (h1 : evP cl es ρ = some r) (h2 : bindP ps r.1 r.2 = some ρ') : exs cl fuel (.cons (.par ps es) rest) ρ = exs cl fuel rest ρ' := by
  simp only [exs, ex, h1, Option.bind_some, h2, Option.map_some]
theorem exs_exp {e : E} {r : Sl × En} (h1 : ev cl e ρ = some r) : exs cl fuel (.cons (.exp e) rest) ρ = exs cl fuel rest r.2 := by
  simp only [exs, ex, h1, Option.map_some]
theorem exs_ret {e : E} {r : Sl × En} (h1 : ev cl e ρ = some r) (h2 : okFl r.1.1 = true) : exs cl fuel (.cons (.ret e) rest) ρ = some (.rt r.1 r.2) := by
  simp only [exs, ex, h1, Option.bind_some, h2, if_true]
theorem exs_for {p : Pat} {it : It} {b : Ss} {ds : List Dt} (h1 : evI cl it ρ = some (ds, ρ1)) (h2 : forL (turnF cl fuel p b) ds ρ1 = some (.nx ρ')) : exs cl fuel (.cons (.for_ p it b) rest) ρ = exs cl fuel rest ρ' := by
  have e : ex cl fuel (.for_ p it b) ρ = some (.nx ρ') := by
    simp only [ex, h1, Option.bind_some]
    exact h2
  simp only [exs, e]
theorem exs_ifT {c : E} {a b : Ss} (h1 : tv cl c ρ = some (true, ρ1)) (h2 : exs cl fuel a ρ1 = some (.nx ρ')) : exs cl fuel (.cons (.ifs c a b) rest) ρ = exs cl fuel rest ρ' := by
  simp only [exs, ex, h1, Option.bind_some, if_true, h2]
theorem exs_ifF {c : E} {a b : Ss} (h1 : tv cl c ρ = some (false, ρ1)) (h2 : exs cl fuel b ρ1 = some (.nx ρ')) : exs cl fuel (.cons (.ifs c a b) rest) ρ = exs cl fuel rest ρ' := by
  simp only [exs, ex, h1, Option.bind_some, Bool.false_eq_true, if_false, h2]
theorem exs_ifR {c : E} {a b : Ss} {r : Sl} (h1 : tv cl c ρ = some (true, ρ1)) (h2 : exs cl fuel a ρ1 = some (.rt r ρ')) : exs cl fuel (.cons (.ifs c a b) rest) ρ = some (.rt r ρ') := by
  simp only [exs, ex, h1, Option.bind_some, if_true, h2]
theorem exs_whl {c : E} {b : Ss} (h : whL (tv cl c) (exs cl fuel b) fuel ρ = some (.nx ρ')) : exs cl fuel (.cons (.whl c b) rest) ρ = exs cl fuel rest ρ' := by
  simp only [exs, ex, h]
theorem run_rt {np nN : Nat} {body : Ss} {as : List Sl} {r : Sl} {os : List Dt} (h0 : (decide (as.length = np) && lentOk (asgSs body) 0 as) = true) (h1 : exs cl fuel body (as.map some ++ List.replicate (nN - as.length) none) = some (.rt r ρ')) (h2 : okFl r.1 = true) (h3 : outs ρ' 0 as = some os) :
    runDef cl fuel np nN body as = some (r, os) := by
  unfold runDef
  rw [if_pos h0, h1]
  show (if okFl r.1 = true then (outs ρ' 0 as).map (fun os => (r, os)) else none) = _
  rw [if_pos h2, h3]
  rfl
/-! ### expressions -/
theorem ev_bin_ {o : Bo} {a b : E} {r q : Sl × En} {z : Sl} (h1 : ev cl a ρ = some r) (h2 : (read? r.1.1 && okBo r.1.1 b) = true) (h3 : ev cl b r.2 = some q) (h4 : read? q.1.1 = true) (h5 : binD o r.1.2 q.1.2 = some z) : ev cl (.bin o a b) ρ = some (z, q.2) := by
  simp only [ev, h1, Option.bind_some, h2, if_true, h3, h4, h5, Option.map_some]
theorem ev_cmp_ {o : Co} {a b : E} {r q : Sl × En} {z : Bool} (h1 : ev cl a ρ = some r) (h2 : (read? r.1.1 && okBo r.1.1 b) = true) (h3 : ev cl b r.2 = some q) (h4 : read? q.1.1 = true) (h5 : cmpD o r.1.2 q.1.2 = some z) : ev cl (.cmp o a b) ρ = some ((.sh, .bool z), q.2) := by
  simp only [ev, h1, Option.bind_some, h2, if_true, h3, h4, h5, Option.map_some]
theorem ev_b1_ {f : B1} {a : E} {r : Sl × En} {z : Sl} (h1 : ev cl a ρ = some r) (h2 : read? r.1.1 = true) (h3 : b1D f r.1.2 = some z) : ev cl (.b1 f a) ρ = some (z, r.2) := by
  simp only [ev, h1, Option.bind_some, h2, if_true, h3, Option.map_some]
theorem keepS_ {r : Sl × En} (h : keep? r.1.1 = true) : keepS (some r) = some (r.1.2, r.2) := by
  simp only [keepS, Option.bind_some, h, if_true]
theorem ev_call_ {f : Str} {as : Es} {D : List (Dt ⊕ Nat)} {L : List Nat} {q : Sl × List Dt} (h1 : evA cl as ρ = some ((D, L), ρ1)) (h2 : (L.all (fun i => decide ((rd ρ1 i).map (·.1) = some .own ∨ (rd ρ1 i).map (·.1) = some .src)) && decide L.Nodup) = true)
    (h3 : cl f (D.map (argSl ρ1)) = some q) (h4 : okFl q.1.1 = true) (h5 : putIo ρ1 D q.2 = some ρ') : ev cl (.call f as) ρ = some (q.1, ρ') := by
  simp only [ev, h1, Option.bind_some]
  rw [if_pos h2]
  simp only [h3, Option.bind_some, h4, if_true, h5, Option.map_some]
theorem ev_comp_ {elt : E} {p : Pat} {it : It} {own : List Nat} {ds : List Dt} (g : Dt → Dt) (h1 : evI cl it ρ = some (ds, ρ1)) (h2 : ds.length ≤ lim) (h3 : ownFree ρ1 own = true)
    (h4 : ∀ d ∈ ds, ∃ ρ2 ρ3, bind p (.sh, d) (wipe ρ1 own) = some ρ2 ∧ keepS (ev cl elt ρ2) = some (g d, ρ3) ∧ wipe ρ3 own = wipe ρ1 own) : ev cl (.comp elt p it own) ρ = some ((.own, .list (ds.map g)), back ρ1 (wipe ρ1 own) own) := by
  have c := compL_map (f := fun ρ' x => (bind p (.sh, x) ρ').bind fun ρ'' => (keepS (ev cl elt ρ'')).map fun q => (some q.1, wipe q.2 own)) (ρ := wipe ρ1 own) g ds fun d hd => by
    obtain ⟨ρ2, ρ3, k1, k2, k3⟩ := h4 d hd
    simp only [k1, Option.bind_some, k2, Option.map_some, k3]
  simp only [ev, h1, Option.bind_some]
  rw [if_pos (by rw [decide_eq_true h2]; exact h3), c]
  rfl
theorem ev_compIf_ {elt c : E} {p : Pat} {it : It} {own : List Nat} {ds : List Dt} (g : Dt → Option Dt) (h1 : evI cl it ρ = some (ds, ρ1)) (h2 : ds.length ≤ lim) (h3 : ownFree ρ1 own = true)
    (h4 : ∀ d ∈ ds, ∃ ρ2 ρ3 t, bind p (.sh, d) (wipe ρ1 own) = some ρ2 ∧ tv cl c ρ2 = some (t, ρ3) ∧ if t = true then ∃ y ρ4, g d = some y ∧ keepS (ev cl elt ρ3) = some (y, ρ4) ∧ wipe ρ4 own = wipe ρ1 own else g d = none ∧ wipe ρ3 own = wipe ρ1 own) :
    ev cl (.compIf elt p it own c) ρ = some ((.own, .list (ds.filterMap g)), back ρ1 (wipe ρ1 own) own) := by
  have c := compL_some (f := fun ρ' x => (bind p (.sh, x) ρ').bind fun ρ'' => ((ev cl c ρ'').bind tst).bind fun t => if t.1 then (keepS (ev cl elt t.2)).map fun q => (some q.1, wipe q.2 own) else some (none, wipe t.2 own)) (ρ := wipe ρ1 own) g ds fun d hd => by
    obtain ⟨ρ2, ρ3, t, k1, k2, k3⟩ := h4 d hd
    have k2' : (ev cl c ρ2).bind tst = some (t, ρ3) := k2
    simp only [k1, Option.bind_some, k2']
    cases t with
    | true =>
      obtain ⟨y, ρ4, e1, e2, e3⟩ := (show ∃ y ρ4, g d = some y ∧ keepS (ev cl elt ρ3) = some (y, ρ4) ∧ wipe ρ4 own = wipe ρ1 own from by simpa using k3)
      simp only [if_true, e2, Option.map_some, e3, e1]
    | false =>
      obtain ⟨e1, e2⟩ := (show g d = none ∧ wipe ρ3 own = wipe ρ1 own from by simpa using k3)
      simp [e1, e2]
  simp only [ev, h1, Option.bind_some]
  rw [if_pos (by rw [decide_eq_true h2]; exact h3), c]
  rfl
theorem ev_tup_ {es : Es} {ds : List Dt} (h1 : evL cl es ρ = some (ds, ρ1)) (h2 : ds.length ≤ lim) : ev cl (.tup es) ρ = some ((.sh, .tuple ds), ρ1) := by
  simp only [ev, h1, Option.bind_some, h2, if_true]
theorem ev_lst_ {es : Es} {ds : List Dt} (h1 : evL cl es ρ = some (ds, ρ1)) (h2 : ds.length ≤ lim) : ev cl (.lst es) ρ = some ((.own, .list ds), ρ1) := by
  simp only [ev, h1, Option.bind_some, h2, if_true]
theorem evL_cons_ {e : E} {r : Es} {x : Dt} {ds : List Dt} (h1 : keepS (ev cl e ρ) = some (x, ρ1)) (h2 : evL cl r ρ1 = some (ds, ρ')) : evL cl (.cons e r) ρ = some (x :: ds, ρ') := by
  simp only [evL, h1, Option.bind_some, h2, Option.map_some]
theorem evL_star_ {e : E} {r : Es} {x : Sl × En} {ds es : List Dt} (h1 : ev cl e ρ = some x) (h2 : read? x.1.1 = true) (h3 : seqOf x.1.2 = some ds) (h4 : evL cl r x.2 = some (es, ρ')) : evL cl (.star e r) ρ = some (ds ++ es, ρ') := by
  simp only [evL, h1, Option.bind_some, h2, if_true, h3, h4, Option.map_some]
theorem evP_cons_ {e : E} {r : Es} {x : Sl × En} {q : List Sl × En} (h1 : ev cl e ρ = some x) (h2 : okFl x.1.1 = true) (h3 : evP cl r x.2 = some q) : evP cl (.cons e r) ρ = some (x.1 :: q.1, q.2) := by
  simp only [evP, h1, Option.bind_some, h2, if_true, h3, Option.map_some]
theorem evP_nil_ : evP cl .nil ρ = some ([], ρ) := rfl
theorem keep_ {e : E} {r : Sl × En} (h1 : ev cl e ρ = some r) (h : keep? r.1.1 = true) : keepS (ev cl e ρ) = some (r.1.2, r.2) := by
  rw [h1]
  exact keepS_ h
theorem flat_rep (k : Nat) (d : Dt) : (List.replicate k [d]).flatten = List.replicate k d := by
  induction k with
  | zero => rfl
  | succ k ih => rw [List.replicate_succ, List.flatten_cons, ih]; rfl
theorem tv_ {e : E} {r : Sl × En} {t : Bool} (h1 : ev cl e ρ = some r) (h2 : read? r.1.1 = true) (h3 : tru r.1.2 = some t) : tv cl e ρ = some (t, r.2) := by
  unfold tv tst
  rw [h1]
  show (if read? r.1.1 = true then (tru r.1.2).map (fun b => (b, r.2)) else none) = _
  rw [if_pos h2, h3]
  rfl
theorem ev_idx_ {a b : E} {r q : Sl × En} {z : Dt} (h1 : ev cl a ρ = some r) (h2 : (read? r.1.1 && okBo r.1.1 b) = true) (h3 : ev cl b r.2 = some q) (h4 : read? q.1.1 = true) (h5 : idxD r.1.2 q.1.2 = some z) : ev cl (.idx a b) ρ = some ((.sh, z), q.2) := by
  simp only [ev, h1, Option.bind_some, h2, if_true, h3, h4, h5, Option.map_some]
theorem ev_andT {a b : E} {x y : Dt} (h1 : keepS (ev cl a ρ) = some (x, ρ1)) (h2 : tru x = some true) (h3 : keepS (ev cl b ρ1) = some (y, ρ')) : ev cl (.and a b) ρ = some ((.sh, y), ρ') := by
  simp only [ev, h1, Option.bind_some, h2, if_true, h3, Option.map_some]
theorem ev_andF {a b : E} {x : Dt} (h1 : keepS (ev cl a ρ) = some (x, ρ1)) (h2 : tru x = some false) : ev cl (.and a b) ρ = some ((.sh, x), ρ1) := by
  simp only [ev, h1, Option.bind_some, h2, Bool.false_eq_true, if_false]
theorem ev_orT {a b : E} {x : Dt} (h1 : keepS (ev cl a ρ) = some (x, ρ1)) (h2 : tru x = some true) : ev cl (.or a b) ρ = some ((.sh, x), ρ1) := by
  simp only [ev, h1, Option.bind_some, h2, if_true]
theorem ev_orF {a b : E} {x y : Dt} (h1 : keepS (ev cl a ρ) = some (x, ρ1)) (h2 : tru x = some false) (h3 : keepS (ev cl b ρ1) = some (y, ρ')) : ev cl (.or a b) ρ = some ((.sh, y), ρ') := by
  simp only [ev, h1, Option.bind_some, h2, Bool.false_eq_true, if_false, h3, Option.map_some]
theorem ev_b2_ {f : B2} {a b : E} {x y : Dt} {z : Sl} (h1 : keepS (ev cl a ρ) = some (x, ρ1)) (h2 : keepS (ev cl b ρ1) = some (y, ρ')) (h3 : b2D f x y = some z) : ev cl (.b2 f a b) ρ = some (z, ρ') := by
  simp only [ev, h1, Option.bind_some, h2, h3, Option.map_some]
theorem exs_setL {i : Nat} {k e : E} {x : Dt} {j : Int} {xs : List Dt} {n : Nat} {ρ2 : En} (h1 : keepS (ev cl e ρ) = some (x, ρ1)) (h2 : (rd ρ1 i).isSome = true) (h3 : keepS (ev cl k ρ1) = some (.int j, ρ2)) (h4 : rd ρ2 i = some (.own, .list xs)) (h5 : L2.ixN xs.length j = some n) :
    exs cl fuel (.cons (.setx i k e) rest) ρ = exs cl fuel rest (ρ2.set i (some (.own, .list (xs.set n x)))) := by
  simp only [exs, ex, h1, Option.bind_some, h2, if_true, h3, h4, h5, Option.map_some]
end
end Mini

end
section
set_option Elab.async false
set_option linter.all false
set_option maxRecDepth 100000
set_option maxHeartbeats 0
namespace K53
open PySem PySem.Spec PyProof.Rows L2 Mini
def top (i : Nat) : Stmt := PySem.Challenge.pw_leastwholes_k53_whole_polynomials_and_ro.main.body.getD i (.Pass ⟨0, 0, 0, 0⟩)
def dd (n : Str) (i : Nat) : He.DefD := ⟨(n, none), n, n, defArgs (top i), defBody (top i), defScope (top i), [], []⟩
def fn0 : List He.DefD := [dd "poly_at" 1, dd "poly_sum" 2, dd "poly_product" 3, dd "poly_times" 4, dd "without_noughts" 5, dd "difference_of" 6, dd "is_below" 7, dd "first_turned" 8, dd "sign_turns" 9, dd "whole_roots" 10, dd "_law_open_cells" 12, dd "_law_pick" 13, dd "_law_at" 14, dd "_law_draw_poly" 15, dd "_law_short" 16, dd "law" 17]
def fn : List He.DefD := fn0
def fa0 : List He.Fa := [.glo "poly_at", .glo "poly_sum", .glo "poly_product", .glo "poly_times", .glo "without_noughts", .glo "difference_of", .glo "is_below", .glo "first_turned", .glo "sign_turns", .glo "whole_roots", .glo "_law_open_cells", .glo "_law_pick", .glo "_law_at", .glo "_law_draw_poly", .glo "_law_short", .glo "law", .free "len", .free "abs", .free "tuple", .free "list", .free "sum", .free "sorted", .free "int", .free "str", .free "repr"]
def fa1 : List He.Fa := [.free "all", .free "any", .free "max", .free "min", .free "range", .free "enumerate", .free "zip"]
def fa : List He.Fa := fa0 ++ fa1
def names0 : List Str := ["poly_at", "poly_sum", "poly_product", "poly_times", "without_noughts", "difference_of", "is_below", "first_turned", "sign_turns", "whole_roots", "_law_open_cells", "_law_pick", "_law_at", "_law_draw_poly", "_law_short"]
def names : List Str := names0
abbrev R : PySem.W.OpenRow := PySem.W.OpenLaw.row PySem.Challenge.rw_leastwholes_k53_whole_polynomials_and_ro
abbrev hk : PySem.W.Hook := He.hookD 4 fa fn
def ob (s : PySem.W.SharedT) : He.AlD := He.obsDG 4 fa fn (HandSHeadRun.getT s)
theorem ob_eq (s : PySem.W.SharedT) : ob s = hk.obs s.abs := He.obsDG_eq (HandSHeadRun.getT_eq s)
theorem run (w : World) : HandSHeadRun.RunEq R (PySem.W.view R.prog [17]) hk ob 4000 names w := by
  intro os
  kernel_rfl
/-! ### the defs -/
def p_poly_at_0 : Ss := (.cons (.asg (.nm 2) (.bin .add (.bin .mul (.v 2) (.v 1)) (.v 3))) .nil)
def d_poly_at : Df := ⟨["poly", "x"], ["poly", "x", "found", "a"],
  (.cons (.asg (.nm 2) (.int 0)) (.cons (.for_ (.nm 3) (.e (.rev (.v 0))) p_poly_at_0) (.cons (.ret (.mv 2)) .nil)))⟩
def p_poly_sum_0 : E := (.bin .add (.v 3) (.v 4))
def d_poly_sum : Df := ⟨["one", "other"], ["one", "other", "many", "a", "b"],
  (.cons (.asg (.nm 2) (.b2 .max (.b1 .len (.v 0)) (.b1 .len (.v 1)))) (.cons (.par (.cons (.nm 0) (.cons (.nm 1) .nil)) (.cons (.tup (.star (.v 0) (.star (.bin .mul (.lst (.cons (.int 0) .nil)) (.bin .sub (.v 2) (.b1 .len (.v 0)))) .nil))) (.cons (.tup (.star (.v 1) (.star (.bin .mul (.lst (.cons (.int 0) .nil)) (.bin .sub (.v 2) (.b1 .len (.v 1)))) .nil))) .nil))) (.cons (.ret (.b1 .tuple (.comp p_poly_sum_0 (.tp (.cons (.nm 3) (.cons (.nm 4) .nil))) (.zip (.sh 0) (.sh 1)) [3, 4]))) .nil)))⟩
def p_poly_product_0 : Ss := (.cons (.setx 2 (.bin .add (.v 3) (.v 5)) (.bin .add (.idx (.v 2) (.bin .add (.v 3) (.v 5))) (.bin .mul (.v 4) (.v 6)))) .nil)
def p_poly_product_1 : Ss := (.cons (.for_ (.tp (.cons (.nm 5) (.cons (.nm 6) .nil))) (.enum (.sh 1)) p_poly_product_0) .nil)
def d_poly_product : Df := ⟨["one", "other"], ["one", "other", "found", "i", "a", "j", "b"],
  (.cons (.asg (.nm 2) (.bin .mul (.lst (.cons (.int 0) .nil)) (.bin .sub (.bin .add (.b1 .len (.v 0)) (.b1 .len (.v 1))) (.int 1)))) (.cons (.for_ (.tp (.cons (.nm 3) (.cons (.nm 4) .nil))) (.enum (.sh 0)) p_poly_product_1) (.cons (.ret (.b1 .tuple (.v 2))) .nil)))⟩
def p_poly_times_0 : E := (.bin .mul (.v 1) (.v 2))
def d_poly_times : Df := ⟨["poly", "k"], ["poly", "k", "a"],
  (.cons (.ret (.b1 .tuple (.comp p_poly_times_0 (.nm 2) (.e (.sh 0)) [2]))) .nil)⟩
def p_without_noughts_0 : E := (.and (.cmp .gt (.v 1) (.int 0)) (.cmp .eq (.idx (.v 0) (.bin .sub (.v 1) (.int 1))) (.int 0)))
def p_without_noughts_1 : Ss := (.cons (.asg (.nm 1) (.bin .sub (.v 1) (.int 1))) .nil)
def d_without_noughts : Df := ⟨["poly"], ["poly", "many"],
  (.cons (.asg (.nm 1) (.b1 .len (.v 0))) (.cons (.whl p_without_noughts_0 p_without_noughts_1) (.cons (.ret (.slU (.v 0) (.v 1))) .nil)))⟩
def p_difference_of_0 : Ss := (.cons (.asg (.nm 1) (.call "poly_sum" (.cons (.call "poly_product" (.cons (.sh 1) (.cons (.tup (.cons (.int 1) (.cons (.int 1) .nil))) .nil))) (.cons (.tup (.cons (.sh 2) .nil)) .nil)))) .nil)
def d_difference_of : Df := ⟨["poly"], ["poly", "late", "a"],
  (.cons (.asg (.nm 1) (.tup (.cons (.int 0) .nil))) (.cons (.for_ (.nm 2) (.e (.rev (.v 0))) p_difference_of_0) (.cons (.ret (.call "without_noughts" (.cons (.call "poly_sum" (.cons (.sh 1) (.cons (.call "poly_times" (.cons (.sh 0) (.cons (.neg (.int 1)) .nil))) .nil))) .nil))) .nil)))⟩
def d_is_below : Df := ⟨["poly", "x"], ["poly", "x"],
  (.cons (.ret (.cmp .lt (.call "poly_at" (.cons (.sh 0) (.cons (.sh 1) .nil))) (.int 0))) .nil)⟩
def p_first_turned_0 : E := (.cmp .gt (.bin .sub (.v 2) (.v 1)) (.int 1))
def p_first_turned_1 : Ss := (.cons (.asg (.nm 4) (.bin .fdiv (.bin .add (.v 1) (.v 2)) (.int 2))) (.cons (.ifs (.cmp .eq (.call "is_below" (.cons (.sh 0) (.cons (.sh 4) .nil))) (.v 3)) (.cons (.asg (.nm 2) (.sh 4)) .nil) (.cons (.asg (.nm 1) (.sh 4)) .nil)) .nil))
def d_first_turned : Df := ⟨["poly", "low", "high"], ["poly", "low", "high", "side", "middle"],
  (.cons (.asg (.nm 3) (.call "is_below" (.cons (.sh 0) (.cons (.sh 2) .nil)))) (.cons (.whl p_first_turned_0 p_first_turned_1) (.cons (.ret (.mv 2)) .nil)))⟩
def p_sign_turns_0 : E := (.cmp .gt (.b1 .len (.idx (.v 3) (.neg (.int 1)))) (.int 1))
def p_sign_turns_1 : Ss := (.cons (.exp (.app 3 (.call "difference_of" (.cons (.idx (.v 3) (.neg (.int 1))) .nil)))) .nil)
def p_sign_turns_2 : Ss := (.cons (.ifs (.and (.cmp .lt (.v 8) (.v 9)) (.cmp .ne (.call "is_below" (.cons (.sh 5) (.cons (.sh 8) .nil))) (.call "is_below" (.cons (.sh 5) (.cons (.sh 9) .nil))))) (.cons (.exp (.app 7 (.call "first_turned" (.cons (.sh 5) (.cons (.sh 8) (.cons (.sh 9) .nil)))))) .nil) .nil) .nil)
def p_sign_turns_3 : Ss := (.cons (.par (.cons (.nm 6) (.cons (.nm 7) .nil)) (.cons (.lst (.cons (.sh 1) (.star (.v 4) (.cons (.sh 2) .nil)))) (.cons (.lst .nil) .nil))) (.cons (.for_ (.tp (.cons (.nm 8) (.cons (.nm 9) .nil))) (.zip (.sh 6) (.slL (.v 6) (.int 1))) p_sign_turns_2) (.cons (.asg (.nm 4) (.b1 .list (.v 7))) .nil)))
def d_sign_turns : Df := ⟨["poly", "low", "high"], ["poly", "low", "high", "chain", "turns", "one", "ends", "late", "left", "right"],
  (.cons (.asg (.nm 3) (.lst (.cons (.call "without_noughts" (.cons (.sh 0) .nil)) .nil))) (.cons (.whl p_sign_turns_0 p_sign_turns_1) (.cons (.asg (.nm 4) (.lst .nil)) (.cons (.for_ (.nm 5) (.e (.rev (.v 3))) p_sign_turns_3) (.cons (.ret (.b1 .tuple (.v 4))) .nil)))))⟩
def p_whole_roots_0 : E := (.sh 9)
def p_whole_roots_1 : E := (.bl true)
def p_whole_roots_2 : Ss := (.cons (.ifs (.cmp .eq (.call "poly_at" (.cons (.sh 0) (.cons (.sh 7) .nil))) (.int 0)) (.cons (.exp (.ext 4 (.lrg (.sh 7) (.sh 8)))) .nil) .nil) .nil)
def p_whole_roots_3 : E := (.sh 9)
def p_whole_roots_4 : E := (.chain .le .le (.neg (.v 1)) (.sh 9) (.v 1))
def d_whole_roots : Df := ⟨["poly", "most"], ["poly", "most", "low", "high", "found", "some", "places", "left", "right", "x"],
  (.cons (.par (.cons (.nm 2) (.cons (.nm 3) (.cons (.nm 4) .nil))) (.cons (.bin .sub (.neg (.v 1)) (.int 1)) (.cons (.bin .add (.v 1) (.int 1)) (.cons (.lst .nil) .nil)))) (.cons (.asg (.nm 5) (.dcomp p_whole_roots_0 p_whole_roots_1 (.nm 9) (.e (.tup (.star (.call "sign_turns" (.cons (.sh 0) (.cons (.sh 2) (.cons (.sh 3) .nil)))) (.star (.call "sign_turns" (.cons (.call "poly_times" (.cons (.sh 0) (.cons (.neg (.int 1)) .nil))) (.cons (.sh 2) (.cons (.sh 3) .nil)))) .nil)))) [9])) (.cons (.asg (.nm 6) (.lst (.cons (.sh 2) (.star (.b1 .sorted (.v 5)) (.cons (.bin .add (.v 3) (.int 1)) .nil))))) (.cons (.for_ (.tp (.cons (.nm 7) (.cons (.nm 8) .nil))) (.zip (.sh 6) (.slL (.v 6) (.int 1))) p_whole_roots_2) (.cons (.ret (.b1 .tuple (.compIf p_whole_roots_3 (.nm 9) (.e (.sh 4)) [9] p_whole_roots_4))) .nil)))))⟩
def p__law_open_cells_0 : Ss := (.cons (.asg (.nm 1) (.bin .mod (.b1 .int (.bin .add (.bin .add (.bin .mul (.v 1) (.int 69069)) (.bin .mul (.v 2) (.int 31))) (.int 5))) (.int 2147483629))) .nil)
def p__law_open_cells_1 : E := (.b1 .abs (.v 2))
def d__law_open_cells : Df := ⟨["script"], ["script", "stirred", "cell", "cells"],
  (.cons (.asg (.nm 1) (.int 11)) (.cons (.for_ (.nm 2) (.scr 0) p__law_open_cells_0) (.cons (.asg (.nm 3) (.comp p__law_open_cells_1 (.nm 2) (.scr 0) [2])) (.cons (.ret (.mkS (.rev (.v 3)) (.sh 1))) .nil))))⟩
def d__law_pick : Df := ⟨["source", "most"], ["source", "most", "cells", "others", "lap", "stirred"],
  (.cons (.ifs (.cmp .lt (.v 1) (.int 2)) (.cons (.ret (.int 0)) .nil) .nil) (.pull 0 2 (.cons (.asg (.nm 3) (.fl 0 "left")) (.cons (.ifs (.cmp .gt (.v 3) (.int 1)) (.cons (.setf 0 "left" (.bin .fdiv (.v 3) (.v 1))) (.cons (.ret (.bin .mod (.b1 .int (.v 3)) (.v 1))) .nil)) .nil) (.cons (.setf 0 "turn" (.bin .add (.fl 0 "turn") (.int 1))) (.cons (.asg (.nm 4) (.fl 0 "turn")) (.cons (.asg (.nm 5) (.bin .mod (.b1 .int (.bin .add (.fl 0 "mixed") (.bin .mul (.v 4) (.int 104729)))) (.int 998244353))) (.cons (.asg (.nm 5) (.bin .mod (.b1 .int (.bin .add (.bin .mul (.v 5) (.v 5)) (.bin .mul (.v 4) (.int 17)))) (.int 2147483647))) (.cons (.ret (.bin .mod (.b1 .int (.bin .fdiv (.v 5) (.int 16))) (.v 1))) .nil)))))))))⟩
def p__law_at_0 : Ss := (.cons (.par (.cons (.nm 2) (.cons (.nm 3) .nil)) (.cons (.bin .add (.v 2) (.bin .mul (.v 4) (.v 3))) (.cons (.bin .mul (.v 3) (.v 1)) .nil))) .nil)
def d__law_at : Df := ⟨["poly", "x"], ["poly", "x", "found", "power", "a"],
  (.cons (.asg (.tp (.cons (.nm 2) (.cons (.nm 3) .nil))) (.tup (.cons (.int 0) (.cons (.int 1) .nil)))) (.cons (.for_ (.nm 4) (.e (.sh 0)) p__law_at_0) (.cons (.ret (.mv 2)) .nil)))⟩
def p__law_draw_poly_0 : E := (.bin .sub (.v 6) (.bin .mul (.v 3) (.v 7)))
def p__law_draw_poly_1 : Ss := (.cons (.asg (.tp (.cons (.nm 3) (.cons (.nm 4) .nil))) (.tup (.cons (.bin .sub (.call "_law_pick" (.cons (.io 0) (.cons (.int 13) .nil))) (.int 6)) (.cons (.bin .add (.lst (.cons (.int 0) .nil)) (.v 1)) .nil)))) (.cons (.asg (.nm 1) (.comp p__law_draw_poly_0 (.tp (.cons (.nm 6) (.cons (.nm 7) .nil))) (.zip (.sh 4) (.bin .add (.v 1) (.lst (.cons (.int 0) .nil)))) [6, 7])) .nil))
def p__law_draw_poly_2 : E := (.bin .sub (.bin .add (.v 6) (.call "_law_pick" (.cons (.io 0) (.cons (.int 5) .nil)))) (.int 2))
def p__law_draw_poly_3 : E := (.bin .mul (.v 5) (.v 6))
def d__law_draw_poly : Df := ⟨["source"], ["source", "poly", "k", "r", "late", "sign", "a", "b"],
  (.cons (.asg (.nm 1) (.lst (.cons (.bin .add (.int 1) (.call "_law_pick" (.cons (.io 0) (.cons (.int 4) .nil)))) .nil))) (.cons (.for_ (.nm 2) (.rng1 (.call "_law_pick" (.cons (.io 0) (.cons (.int 6) .nil)))) p__law_draw_poly_1) (.cons (.ifs (.cmp .eq (.call "_law_pick" (.cons (.io 0) (.cons (.int 3) .nil))) (.int 0)) (.cons (.asg (.nm 1) (.comp p__law_draw_poly_2 (.nm 6) (.e (.sh 1)) [6])) .nil) .nil) (.cons (.asg (.nm 5) (.bin .sub (.int 1) (.bin .mul (.int 2) (.call "_law_pick" (.cons (.io 0) (.cons (.int 2) .nil)))))) (.cons (.ret (.b1 .tuple (.bin .add (.comp p__law_draw_poly_3 (.nm 6) (.e (.sh 1)) [6]) (.bin .mul (.lst (.cons (.int 0) .nil)) (.call "_law_pick" (.cons (.io 0) (.cons (.int 2) .nil))))))) .nil)))))⟩
def p__law_short_0 : E := (.and (.cmp .ne (.v 0) (.tup .nil)) (.cmp .eq (.idx (.v 0) (.neg (.int 1))) (.int 0)))
def p__law_short_1 : Ss := (.cons (.asg (.nm 0) (.slU (.v 0) (.neg (.int 1)))) .nil)
def d__law_short : Df := ⟨["poly"], ["poly"],
  (.cons (.whl p__law_short_0 p__law_short_1) (.cons (.ret (.mv 0)) .nil))⟩
def p_law_0 : E := (.bin .mul (.v 8) (.v 16))
def p_law_1 : Ss := (.cons (.asg (.nm 15) (.lst (.cons (.call "_law_at" (.cons (.sh 3) (.cons (.sh 11) .nil))) (.cons (.bin .add (.call "_law_at" (.cons (.sh 3) (.cons (.sh 11) .nil))) (.call "_law_at" (.cons (.sh 4) (.cons (.sh 11) .nil)))) (.cons (.bin .mul (.call "_law_at" (.cons (.sh 3) (.cons (.sh 11) .nil))) (.call "_law_at" (.cons (.sh 4) (.cons (.sh 11) .nil)))) .nil))))) (.cons (.ifs (.cmp .ne (.lst (.cons (.call "poly_at" (.cons (.sh 3) (.cons (.sh 11) .nil))) (.cons (.call "_law_at" (.cons (.sh 9) (.cons (.sh 11) .nil))) (.cons (.call "_law_at" (.cons (.sh 10) (.cons (.sh 11) .nil))) .nil)))) (.v 15)) (.cons (.ret (.bl false)) .nil) .nil) (.cons (.ifs (.cmp .ne (.call "_law_at" (.cons (.call "difference_of" (.cons (.sh 3) .nil)) (.cons (.sh 11) .nil))) (.bin .sub (.call "_law_at" (.cons (.sh 3) (.cons (.bin .add (.v 11) (.int 1)) .nil))) (.call "_law_at" (.cons (.sh 3) (.cons (.sh 11) .nil))))) (.cons (.ret (.bl false)) .nil) .nil) .nil)))
def p_law_2 : E := (.sh 11)
def p_law_3 : E := (.cmp .ne (.cmp .lt (.call "_law_at" (.cons (.sh 3) (.cons (.sh 11) .nil))) (.int 0)) (.cmp .lt (.call "_law_at" (.cons (.sh 3) (.cons (.bin .sub (.v 11) (.int 1)) .nil))) (.int 0)))
def p_law_4 : E := (.sh 11)
def p_law_5 : E := (.cmp .eq (.call "_law_at" (.cons (.sh 3) (.cons (.sh 11) .nil))) (.int 0))
def p_law_6 : Ss := (.cons (.asg (.tp (.cons (.nm 3) (.cons (.nm 4) .nil))) (.tup (.cons (.call "_law_draw_poly" (.cons (.io 1) .nil)) (.cons (.call "_law_draw_poly" (.cons (.io 1) .nil)) .nil)))) (.cons (.par (.cons (.nm 5) (.cons (.nm 6) .nil)) (.cons (.bin .sub (.bin .sub (.int 0) (.int 1)) (.call "_law_pick" (.cons (.io 1) (.cons (.int 20) .nil)))) (.cons (.call "_law_pick" (.cons (.io 1) (.cons (.int 15) .nil))) .nil))) (.cons (.asg (.tp (.cons (.nm 7) (.cons (.nm 8) .nil))) (.tup (.cons (.bin .add (.bin .add (.v 5) (.int 1)) (.call "_law_pick" (.cons (.io 1) (.cons (.int 40) .nil)))) (.cons (.bin .sub (.call "_law_pick" (.cons (.io 1) (.cons (.int 9) .nil))) (.int 4)) .nil)))) (.cons (.par (.cons (.nm 9) (.cons (.nm 10) .nil)) (.cons (.call "poly_sum" (.cons (.sh 3) (.cons (.sh 4) .nil))) (.cons (.call "poly_product" (.cons (.sh 3) (.cons (.sh 4) .nil))) .nil))) (.cons (.ifs (.or (.cmp .ne (.b1 .len (.v 9)) (.b2 .max (.b1 .len (.v 3)) (.b1 .len (.v 4)))) (.cmp .ne (.b1 .len (.v 10)) (.bin .sub (.bin .add (.b1 .len (.v 3)) (.b1 .len (.v 4))) (.int 1)))) (.cons (.ret (.bl false)) .nil) .nil) (.cons (.ifs (.or (.cmp .ne (.b1 .repr (.call "without_noughts" (.cons (.sh 3) .nil))) (.b1 .repr (.call "_law_short" (.cons (.sh 3) .nil)))) (.cmp .ne (.b1 .repr (.call "poly_times" (.cons (.sh 3) (.cons (.sh 8) .nil)))) (.b1 .repr (.b1 .tuple (.comp p_law_0 (.nm 16) (.e (.sh 3)) [16]))))) (.cons (.ret (.bl false)) .nil) .nil) (.cons (.for_ (.nm 11) (.rng2 (.bin .sub (.int 0) (.int 9)) (.int 10)) p_law_1) (.cons (.asg (.nm 12) (.call "difference_of" (.cons (.sh 3) .nil))) (.cons (.ifs (.or (.cmp .ne (.v 12) (.call "_law_short" (.cons (.sh 12) .nil))) (.cmp .ne (.b1 .len (.v 12)) (.b2 .max (.int 0) (.bin .sub (.b1 .len (.call "_law_short" (.cons (.sh 3) .nil))) (.int 1))))) (.cons (.ret (.bl false)) .nil) .nil) (.cons (.asg (.nm 13) (.compIf p_law_2 (.nm 11) (.rng2 (.bin .add (.v 5) (.int 1)) (.bin .add (.v 7) (.int 1))) [11] p_law_3)) (.cons (.ifs (.cmp .ne (.b1 .repr (.call "sign_turns" (.cons (.sh 3) (.cons (.sh 5) (.cons (.sh 7) .nil))))) (.b1 .repr (.b1 .tuple (.v 13)))) (.cons (.ret (.bl false)) .nil) .nil) (.cons (.asg (.nm 14) (.compIf p_law_4 (.nm 11) (.rng2 (.bin .sub (.int 0) (.v 6)) (.bin .add (.v 6) (.int 1))) [11] p_law_5)) (.cons (.ifs (.and (.cmp .ne (.call "_law_short" (.cons (.sh 3) .nil)) (.tup .nil)) (.cmp .ne (.b1 .repr (.call "whole_roots" (.cons (.sh 3) (.cons (.sh 6) .nil)))) (.b1 .repr (.b1 .tuple (.v 14))))) (.cons (.ret (.bl false)) .nil) .nil) .nil)))))))))))))
def d_law : Df := ⟨["script"], ["script", "source", "lap", "one", "other", "low", "most", "high", "k", "sums", "product", "x", "step", "due", "roots", "values", "a"],
  (.cons (.asg (.nm 1) (.call "_law_open_cells" (.cons (.io 0) .nil))) (.cons (.for_ (.nm 2) (.rng1 (.int 4)) p_law_6) (.cons (.ret (.and (.cmp .eq (.call "sign_turns" (.cons (.tup (.cons (.int 0) (.cons (.int 0) .nil))) (.cons (.bin .sub (.int 0) (.int 3)) (.cons (.int 3) .nil)))) (.tup .nil)) (.and (.cmp .eq (.call "difference_of" (.cons (.tup (.cons (.int 7) .nil)) .nil)) (.tup .nil)) (.cmp .eq (.call "whole_roots" (.cons (.tup (.cons (.int 0) (.cons (.int 1) .nil))) (.cons (.int 0) .nil))) (.tup (.cons (.int 0) .nil)))))) .nil)))⟩

def rows : List (Str × Df) := [("poly_at", d_poly_at), ("poly_sum", d_poly_sum), ("poly_product", d_poly_product), ("poly_times", d_poly_times), ("without_noughts", d_without_noughts), ("difference_of", d_difference_of), ("is_below", d_is_below), ("first_turned", d_first_turned), ("sign_turns", d_sign_turns), ("whole_roots", d_whole_roots), ("_law_open_cells", d__law_open_cells), ("_law_pick", d__law_pick), ("_law_at", d__law_at), ("_law_draw_poly", d__law_draw_poly), ("_law_short", d__law_short), ("law", d_law)]
def tbl (f : Str) : Option Df := rows.lookup f
def cl (k : Nat) : CallS := callF tbl (fun _ _ => none) 100000 k
section
variable {K : PySem.W.Frag} {h : Heap} {mg : Str → Option Value}
theorem sc_poly_at : FnScope d_poly_at.N d_poly_at.ps (defScope (top 1)) := ⟨rfl, rfl, rfl, by decide +kernel, rfl, by decide +kernel, by decide +kernel⟩
theorem ck_poly_at : chkSs d_poly_at.N (defScope (top 1)) d_poly_at.body (defBody (top 1)) = true := by decide +kernel
theorem ok_poly_at (X : K.In h) (G : h.Ns mainGlobals mg) (c : He.SaysD fa fn K) : DefOk K mg "poly_at" d_poly_at := by
  obtain ⟨fd, F⟩ := c.def_ 0 (d := dd "poly_at" 1) rfl
  exact ⟨_, _, _, _, _, _, fd, He.glo_ok X G (c.fact 0 (f := .glo "poly_at") rfl), F, F.bindsN (fun _ _ _ _ _ _ us hl => match us, hl with | [_, _], _ => rfl), sc_poly_at, ck_poly_at⟩
theorem sc_poly_sum : FnScope d_poly_sum.N d_poly_sum.ps (defScope (top 2)) := ⟨rfl, rfl, rfl, by decide +kernel, rfl, by decide +kernel, by decide +kernel⟩
theorem ck_poly_sum : chkSs d_poly_sum.N (defScope (top 2)) d_poly_sum.body (defBody (top 2)) = true := by decide +kernel
theorem ok_poly_sum (X : K.In h) (G : h.Ns mainGlobals mg) (c : He.SaysD fa fn K) : DefOk K mg "poly_sum" d_poly_sum := by
  obtain ⟨fd, F⟩ := c.def_ 1 (d := dd "poly_sum" 2) rfl
  exact ⟨_, _, _, _, _, _, fd, He.glo_ok X G (c.fact 1 (f := .glo "poly_sum") rfl), F, F.bindsN (fun _ _ _ _ _ _ us hl => match us, hl with | [_, _], _ => rfl), sc_poly_sum, ck_poly_sum⟩
theorem sc_poly_product : FnScope d_poly_product.N d_poly_product.ps (defScope (top 3)) := ⟨rfl, rfl, rfl, by decide +kernel, rfl, by decide +kernel, by decide +kernel⟩
theorem ck_poly_product : chkSs d_poly_product.N (defScope (top 3)) d_poly_product.body (defBody (top 3)) = true := by decide +kernel
theorem ok_poly_product (X : K.In h) (G : h.Ns mainGlobals mg) (c : He.SaysD fa fn K) : DefOk K mg "poly_product" d_poly_product := by
  obtain ⟨fd, F⟩ := c.def_ 2 (d := dd "poly_product" 3) rfl
  exact ⟨_, _, _, _, _, _, fd, He.glo_ok X G (c.fact 2 (f := .glo "poly_product") rfl), F, F.bindsN (fun _ _ _ _ _ _ us hl => match us, hl with | [_, _], _ => rfl), sc_poly_product, ck_poly_product⟩
theorem sc_poly_times : FnScope d_poly_times.N d_poly_times.ps (defScope (top 4)) := ⟨rfl, rfl, rfl, by decide +kernel, rfl, by decide +kernel, by decide +kernel⟩
theorem ck_poly_times : chkSs d_poly_times.N (defScope (top 4)) d_poly_times.body (defBody (top 4)) = true := by decide +kernel
theorem ok_poly_times (X : K.In h) (G : h.Ns mainGlobals mg) (c : He.SaysD fa fn K) : DefOk K mg "poly_times" d_poly_times := by
  obtain ⟨fd, F⟩ := c.def_ 3 (d := dd "poly_times" 4) rfl
  exact ⟨_, _, _, _, _, _, fd, He.glo_ok X G (c.fact 3 (f := .glo "poly_times") rfl), F, F.bindsN (fun _ _ _ _ _ _ us hl => match us, hl with | [_, _], _ => rfl), sc_poly_times, ck_poly_times⟩
theorem sc_without_noughts : FnScope d_without_noughts.N d_without_noughts.ps (defScope (top 5)) := ⟨rfl, rfl, rfl, by decide +kernel, rfl, by decide +kernel, by decide +kernel⟩
theorem ck_without_noughts : chkSs d_without_noughts.N (defScope (top 5)) d_without_noughts.body (defBody (top 5)) = true := by decide +kernel
theorem ok_without_noughts (X : K.In h) (G : h.Ns mainGlobals mg) (c : He.SaysD fa fn K) : DefOk K mg "without_noughts" d_without_noughts := by
  obtain ⟨fd, F⟩ := c.def_ 4 (d := dd "without_noughts" 5) rfl
  exact ⟨_, _, _, _, _, _, fd, He.glo_ok X G (c.fact 4 (f := .glo "without_noughts") rfl), F, F.bindsN (fun _ _ _ _ _ _ us hl => match us, hl with | [_], _ => rfl), sc_without_noughts, ck_without_noughts⟩
theorem sc_difference_of : FnScope d_difference_of.N d_difference_of.ps (defScope (top 6)) := ⟨rfl, rfl, rfl, by decide +kernel, rfl, by decide +kernel, by decide +kernel⟩
theorem ck_difference_of : chkSs d_difference_of.N (defScope (top 6)) d_difference_of.body (defBody (top 6)) = true := by decide +kernel
theorem ok_difference_of (X : K.In h) (G : h.Ns mainGlobals mg) (c : He.SaysD fa fn K) : DefOk K mg "difference_of" d_difference_of := by
  obtain ⟨fd, F⟩ := c.def_ 5 (d := dd "difference_of" 6) rfl
  exact ⟨_, _, _, _, _, _, fd, He.glo_ok X G (c.fact 5 (f := .glo "difference_of") rfl), F, F.bindsN (fun _ _ _ _ _ _ us hl => match us, hl with | [_], _ => rfl), sc_difference_of, ck_difference_of⟩
theorem sc_is_below : FnScope d_is_below.N d_is_below.ps (defScope (top 7)) := ⟨rfl, rfl, rfl, by decide +kernel, rfl, by decide +kernel, by decide +kernel⟩
theorem ck_is_below : chkSs d_is_below.N (defScope (top 7)) d_is_below.body (defBody (top 7)) = true := by decide +kernel
theorem ok_is_below (X : K.In h) (G : h.Ns mainGlobals mg) (c : He.SaysD fa fn K) : DefOk K mg "is_below" d_is_below := by
  obtain ⟨fd, F⟩ := c.def_ 6 (d := dd "is_below" 7) rfl
  exact ⟨_, _, _, _, _, _, fd, He.glo_ok X G (c.fact 6 (f := .glo "is_below") rfl), F, F.bindsN (fun _ _ _ _ _ _ us hl => match us, hl with | [_, _], _ => rfl), sc_is_below, ck_is_below⟩
theorem sc_first_turned : FnScope d_first_turned.N d_first_turned.ps (defScope (top 8)) := ⟨rfl, rfl, rfl, by decide +kernel, rfl, by decide +kernel, by decide +kernel⟩
theorem ck_first_turned : chkSs d_first_turned.N (defScope (top 8)) d_first_turned.body (defBody (top 8)) = true := by decide +kernel
theorem ok_first_turned (X : K.In h) (G : h.Ns mainGlobals mg) (c : He.SaysD fa fn K) : DefOk K mg "first_turned" d_first_turned := by
  obtain ⟨fd, F⟩ := c.def_ 7 (d := dd "first_turned" 8) rfl
  exact ⟨_, _, _, _, _, _, fd, He.glo_ok X G (c.fact 7 (f := .glo "first_turned") rfl), F, F.bindsN (fun _ _ _ _ _ _ us hl => match us, hl with | [_, _, _], _ => rfl), sc_first_turned, ck_first_turned⟩
theorem sc_sign_turns : FnScope d_sign_turns.N d_sign_turns.ps (defScope (top 9)) := ⟨rfl, rfl, rfl, by decide +kernel, rfl, by decide +kernel, by decide +kernel⟩
theorem ck_sign_turns : chkSs d_sign_turns.N (defScope (top 9)) d_sign_turns.body (defBody (top 9)) = true := by decide +kernel
theorem ok_sign_turns (X : K.In h) (G : h.Ns mainGlobals mg) (c : He.SaysD fa fn K) : DefOk K mg "sign_turns" d_sign_turns := by
  obtain ⟨fd, F⟩ := c.def_ 8 (d := dd "sign_turns" 9) rfl
  exact ⟨_, _, _, _, _, _, fd, He.glo_ok X G (c.fact 8 (f := .glo "sign_turns") rfl), F, F.bindsN (fun _ _ _ _ _ _ us hl => match us, hl with | [_, _, _], _ => rfl), sc_sign_turns, ck_sign_turns⟩
theorem sc_whole_roots : FnScope d_whole_roots.N d_whole_roots.ps (defScope (top 10)) := ⟨rfl, rfl, rfl, by decide +kernel, rfl, by decide +kernel, by decide +kernel⟩
theorem ck_whole_roots : chkSs d_whole_roots.N (defScope (top 10)) d_whole_roots.body (defBody (top 10)) = true := by decide +kernel
theorem ok_whole_roots (X : K.In h) (G : h.Ns mainGlobals mg) (c : He.SaysD fa fn K) : DefOk K mg "whole_roots" d_whole_roots := by
  obtain ⟨fd, F⟩ := c.def_ 9 (d := dd "whole_roots" 10) rfl
  exact ⟨_, _, _, _, _, _, fd, He.glo_ok X G (c.fact 9 (f := .glo "whole_roots") rfl), F, F.bindsN (fun _ _ _ _ _ _ us hl => match us, hl with | [_, _], _ => rfl), sc_whole_roots, ck_whole_roots⟩
theorem sc__law_open_cells : FnScope d__law_open_cells.N d__law_open_cells.ps (defScope (top 12)) := ⟨rfl, rfl, rfl, by decide +kernel, rfl, by decide +kernel, by decide +kernel⟩
theorem ck__law_open_cells : chkSs d__law_open_cells.N (defScope (top 12)) d__law_open_cells.body (defBody (top 12)) = true := by decide +kernel
theorem ok__law_open_cells (X : K.In h) (G : h.Ns mainGlobals mg) (c : He.SaysD fa fn K) : DefOk K mg "_law_open_cells" d__law_open_cells := by
  obtain ⟨fd, F⟩ := c.def_ 10 (d := dd "_law_open_cells" 12) rfl
  exact ⟨_, _, _, _, _, _, fd, He.glo_ok X G (c.fact 10 (f := .glo "_law_open_cells") rfl), F, F.bindsN (fun _ _ _ _ _ _ us hl => match us, hl with | [_], _ => rfl), sc__law_open_cells, ck__law_open_cells⟩
theorem sc__law_pick : FnScope d__law_pick.N d__law_pick.ps (defScope (top 13)) := ⟨rfl, rfl, rfl, by decide +kernel, rfl, by decide +kernel, by decide +kernel⟩
theorem ck__law_pick : chkSs d__law_pick.N (defScope (top 13)) d__law_pick.body (defBody (top 13)) = true := by decide +kernel
theorem ok__law_pick (X : K.In h) (G : h.Ns mainGlobals mg) (c : He.SaysD fa fn K) : DefOk K mg "_law_pick" d__law_pick := by
  obtain ⟨fd, F⟩ := c.def_ 11 (d := dd "_law_pick" 13) rfl
  exact ⟨_, _, _, _, _, _, fd, He.glo_ok X G (c.fact 11 (f := .glo "_law_pick") rfl), F, F.bindsN (fun _ _ _ _ _ _ us hl => match us, hl with | [_, _], _ => rfl), sc__law_pick, ck__law_pick⟩
theorem sc__law_at : FnScope d__law_at.N d__law_at.ps (defScope (top 14)) := ⟨rfl, rfl, rfl, by decide +kernel, rfl, by decide +kernel, by decide +kernel⟩
theorem ck__law_at : chkSs d__law_at.N (defScope (top 14)) d__law_at.body (defBody (top 14)) = true := by decide +kernel
theorem ok__law_at (X : K.In h) (G : h.Ns mainGlobals mg) (c : He.SaysD fa fn K) : DefOk K mg "_law_at" d__law_at := by
  obtain ⟨fd, F⟩ := c.def_ 12 (d := dd "_law_at" 14) rfl
  exact ⟨_, _, _, _, _, _, fd, He.glo_ok X G (c.fact 12 (f := .glo "_law_at") rfl), F, F.bindsN (fun _ _ _ _ _ _ us hl => match us, hl with | [_, _], _ => rfl), sc__law_at, ck__law_at⟩
theorem sc__law_draw_poly : FnScope d__law_draw_poly.N d__law_draw_poly.ps (defScope (top 15)) := ⟨rfl, rfl, rfl, by decide +kernel, rfl, by decide +kernel, by decide +kernel⟩
theorem ck__law_draw_poly : chkSs d__law_draw_poly.N (defScope (top 15)) d__law_draw_poly.body (defBody (top 15)) = true := by decide +kernel
theorem ok__law_draw_poly (X : K.In h) (G : h.Ns mainGlobals mg) (c : He.SaysD fa fn K) : DefOk K mg "_law_draw_poly" d__law_draw_poly := by
  obtain ⟨fd, F⟩ := c.def_ 13 (d := dd "_law_draw_poly" 15) rfl
  exact ⟨_, _, _, _, _, _, fd, He.glo_ok X G (c.fact 13 (f := .glo "_law_draw_poly") rfl), F, F.bindsN (fun _ _ _ _ _ _ us hl => match us, hl with | [_], _ => rfl), sc__law_draw_poly, ck__law_draw_poly⟩
theorem sc__law_short : FnScope d__law_short.N d__law_short.ps (defScope (top 16)) := ⟨rfl, rfl, rfl, by decide +kernel, rfl, by decide +kernel, by decide +kernel⟩
theorem ck__law_short : chkSs d__law_short.N (defScope (top 16)) d__law_short.body (defBody (top 16)) = true := by decide +kernel
theorem ok__law_short (X : K.In h) (G : h.Ns mainGlobals mg) (c : He.SaysD fa fn K) : DefOk K mg "_law_short" d__law_short := by
  obtain ⟨fd, F⟩ := c.def_ 14 (d := dd "_law_short" 16) rfl
  exact ⟨_, _, _, _, _, _, fd, He.glo_ok X G (c.fact 14 (f := .glo "_law_short") rfl), F, F.bindsN (fun _ _ _ _ _ _ us hl => match us, hl with | [_], _ => rfl), sc__law_short, ck__law_short⟩
theorem sc_law : FnScope d_law.N d_law.ps (defScope (top 17)) := ⟨rfl, rfl, rfl, by decide +kernel, rfl, by decide +kernel, by decide +kernel⟩
theorem ck_law : chkSs d_law.N (defScope (top 17)) d_law.body (defBody (top 17)) = true := by decide +kernel
theorem ok_law (X : K.In h) (G : h.Ns mainGlobals mg) (c : He.SaysD fa fn K) : DefOk K mg "law" d_law := by
  obtain ⟨fd, F⟩ := c.def_ 15 (d := dd "law" 17) rfl
  exact ⟨_, _, _, _, _, _, fd, He.glo_ok X G (c.fact 15 (f := .glo "law") rfl), F, F.bindsN (fun _ _ _ _ _ _ us hl => match us, hl with | [_], _ => rfl), sc_law, ck_law⟩
theorem ok_rows (X : K.In h) (G : h.Ns mainGlobals mg) (c : He.SaysD fa fn K) : ∀ f d, tbl f = some d → DefOk K mg f d := by
  intro f d e
  have m : (f, d) ∈ rows := PySem.mem_of_lookup e
  have all : ∀ p ∈ rows, DefOk K mg p.1 p.2 := by
    unfold rows
    refine List.forall_mem_cons.mpr ⟨ok_poly_at X G c, ?_⟩
    refine List.forall_mem_cons.mpr ⟨ok_poly_sum X G c, ?_⟩
    refine List.forall_mem_cons.mpr ⟨ok_poly_product X G c, ?_⟩
    refine List.forall_mem_cons.mpr ⟨ok_poly_times X G c, ?_⟩
    refine List.forall_mem_cons.mpr ⟨ok_without_noughts X G c, ?_⟩
    refine List.forall_mem_cons.mpr ⟨ok_difference_of X G c, ?_⟩
    refine List.forall_mem_cons.mpr ⟨ok_is_below X G c, ?_⟩
    refine List.forall_mem_cons.mpr ⟨ok_first_turned X G c, ?_⟩
    refine List.forall_mem_cons.mpr ⟨ok_sign_turns X G c, ?_⟩
    refine List.forall_mem_cons.mpr ⟨ok_whole_roots X G c, ?_⟩
    refine List.forall_mem_cons.mpr ⟨ok__law_open_cells X G c, ?_⟩
    refine List.forall_mem_cons.mpr ⟨ok__law_pick X G c, ?_⟩
    refine List.forall_mem_cons.mpr ⟨ok__law_at X G c, ?_⟩
    refine List.forall_mem_cons.mpr ⟨ok__law_draw_poly X G c, ?_⟩
    refine List.forall_mem_cons.mpr ⟨ok__law_short X G c, ?_⟩
    refine List.forall_mem_cons.mpr ⟨ok_law X G c, ?_⟩
    exact fun p hp => by cases hp
  exact all (f, d) m
theorem ok_free (X : K.In h) (G : h.Ns mainGlobals mg) (c : He.SaysD fa fn K) : ∀ x ∈ freeN, mg x = none := by
  unfold freeN
  refine List.forall_mem_cons.mpr ⟨He.free_ok X G (c.fact 16 (f := .free "len") rfl), ?_⟩
  refine List.forall_mem_cons.mpr ⟨He.free_ok X G (c.fact 17 (f := .free "abs") rfl), ?_⟩
  refine List.forall_mem_cons.mpr ⟨He.free_ok X G (c.fact 18 (f := .free "tuple") rfl), ?_⟩
  refine List.forall_mem_cons.mpr ⟨He.free_ok X G (c.fact 19 (f := .free "list") rfl), ?_⟩
  refine List.forall_mem_cons.mpr ⟨He.free_ok X G (c.fact 20 (f := .free "sum") rfl), ?_⟩
  refine List.forall_mem_cons.mpr ⟨He.free_ok X G (c.fact 21 (f := .free "sorted") rfl), ?_⟩
  refine List.forall_mem_cons.mpr ⟨He.free_ok X G (c.fact 22 (f := .free "int") rfl), ?_⟩
  refine List.forall_mem_cons.mpr ⟨He.free_ok X G (c.fact 23 (f := .free "str") rfl), ?_⟩
  refine List.forall_mem_cons.mpr ⟨He.free_ok X G (c.fact 24 (f := .free "repr") rfl), ?_⟩
  refine List.forall_mem_cons.mpr ⟨He.free_ok X G (c.fact 25 (f := .free "all") rfl), ?_⟩
  refine List.forall_mem_cons.mpr ⟨He.free_ok X G (c.fact 26 (f := .free "any") rfl), ?_⟩
  refine List.forall_mem_cons.mpr ⟨He.free_ok X G (c.fact 27 (f := .free "max") rfl), ?_⟩
  refine List.forall_mem_cons.mpr ⟨He.free_ok X G (c.fact 28 (f := .free "min") rfl), ?_⟩
  refine List.forall_mem_cons.mpr ⟨He.free_ok X G (c.fact 29 (f := .free "range") rfl), ?_⟩
  refine List.forall_mem_cons.mpr ⟨He.free_ok X G (c.fact 30 (f := .free "enumerate") rfl), ?_⟩
  refine List.forall_mem_cons.mpr ⟨He.free_ok X G (c.fact 31 (f := .free "zip") rfl), ?_⟩
  exact fun p hp => by cases hp
theorem facts {w : World} {f : Addr} (X : K.In h) (G : h.Ns mainGlobals mg) (hmg : mg ("law" : Str) = some (.ref f)) (c : He.SaysD fa fn K) :
    ∃ fd : FuncData, (∀ (s : Shared) (v : Value), BindsTo s fd ⟨[v], []⟩ [("script", v)]) ∧ ∀ base : Heap, K.In base → base.Ns mainGlobals mg → FnG (PySem.Challenge.rw_leastwholes_k53_whole_polynomials_and_ro).prog w K mg base 8 f fd ["script"] (spD K (cl 8 "law")) := by
  obtain ⟨fd, F⟩ := c.def_ 15 (d := dd "law" 17) rfl
  have e := hmg.symm.trans (He.glo_ok X G (c.fact 15 (f := .glo "law") rfl))
  cases e
  have b := FunD.bindsA (ps := ["script"]) F fun _ _ _ _ _ _ us hl => match us, hl with | [_], _ => rfl
  refine ⟨fd, fun s v => b s [v] rfl, fun base _ _ => ?_⟩
  have t := tbl_ok (P := (PySem.Challenge.rw_leastwholes_k53_whole_polynomials_and_ro).prog) (w := w) (K := K) (mg := mg) (base := base) (tbl := tbl) (ext := fun _ _ => none) (fuel := 100000) (k0 := 0) (fun f as r h => by cases h) (ok_free X G c) (ok_rows X G c) 7
  rw [Nat.zero_add] at t
  exact FnG.mini (d := d_law) t (ok_free X G c) F sc_law ck_law
end
end K53
open PySem PySem.W PySem.Calls PyProof.Rows
theorem K53.law_of (key : ∀ ns : List Int, ns.length ≤ 63 → ∃ os, K53.cl 8 "law" [(.src, .list (ns.map .int))] = some ((.sh, .bool true), os)) : PySem.Challenge.rw_leastwholes_k53_whole_polynomials_and_ro.Holds := by
  w_on; o_law
  refine HandSHeadRun.head_any (r := OpenLaw.row PySem.Challenge.rw_leastwholes_k53_whole_polynomials_and_ro) (q := view (OpenLaw.row PySem.Challenge.rw_leastwholes_k53_whole_polynomials_and_ro).prog [17]) (H := K53.hk) (ob := K53.ob) (M := 4000) (loose := K53.names) (d := HandSHeadRun.topDef (OpenLaw.row PySem.Challenge.rw_leastwholes_k53_whole_polynomials_and_ro).prog 17) (kwd := []) K53.ob_eq
    (by kernel_rfl) (fun s => by kernel_rfl) K53.run (by kernel_rfl) (by kernel_rfl) (by kernel_rfl) (by rfl) (by first | assumption | decide +kernel) (by decide +kernel) ⟨rfl, rfl, rfl, rfl, rfl, by decide +kernel⟩ ?hw ?hc
  case hw => w_witness2
  case hc =>
    refine Mini.walk_G (l := PySem.Challenge.rw_leastwholes_k53_whole_polynomials_and_ro) (n := 63) (k := 8) (x := "script") rfl (by decide) (by kernel_rfl) ⟨rfl, by decide, by decide⟩ ?F
    intro w mg fa h Y G hmg0
    obtain ⟨K, KX, c⟩ := Y
    have hmg : mg ("law" : PySem.Str) = some (.ref fa) := by
      have e : (HandSHeadRun.topDef (OpenLaw.row PySem.Challenge.rw_leastwholes_k53_whole_polynomials_and_ro).prog 17).name = ("law" : PySem.Str) := by kernel_rfl
      rw [← e]
      exact hmg0
    obtain ⟨fd, hb, hF⟩ := K53.facts (w := w) KX G hmg c
    exact ⟨K, fd, Mini.spD K (K53.cl 8 "law"), KX, hb, fun H a ns hl hO hS => Mini.law_sp hO hS (key ns hl), hF⟩

end
section
set_option Elab.async false
set_option linter.all false
set_option maxRecDepth 100000
set_option maxHeartbeats 4000000
/-! k53, the polynomials' defs on data. -/
namespace K53
open PySem Mini
abbrev I_ (i : Int) : Sl := (.sh, .int i)
abbrev T_ (ns : List Int) : Sl := (.sh, tI_ ns)
def sm (i : Int) : Prop := i.natAbs < 2 ^ 64
theorem len_lim {ns : List Int} (h : ns.length ≤ 100) : (ns.map PyData.int).length ≤ lim := by
  rw [List.length_map]
  exact Nat.le_trans h (by decide)
/-- the value of a polynomial, highest first -/
def hor (x : Int) : List Int → Int → Int
  | [], f => f
  | a :: r, f => hor x r (f * x + a)
def pAt (ns : List Int) (x : Int) : Int := hor x ns.reverse 0
theorem bin_mul {c : CallS} {a b : E} {ρ ρ1 ρ2 : En} {i j : Int} (h1 : ev c a ρ = some ((.sh, .int i), ρ1)) (h2 : ev c b ρ1 = some ((.sh, .int j), ρ2)) (h : mulOk i j = true) : ev c (.bin .mul a b) ρ = some ((.sh, .int (i * j)), ρ2) :=
  ev_bin_ h1 rfl h2 rfl (if_pos h)
theorem bin_add {c : CallS} {a b : E} {ρ ρ1 ρ2 : En} {i j : Int} (h1 : ev c a ρ = some ((.sh, .int i), ρ1)) (h2 : ev c b ρ1 = some ((.sh, .int j), ρ2)) : ev c (.bin .add a b) ρ = some ((.sh, .int (i + j)), ρ2) :=
  ev_bin_ h1 rfl h2 rfl rfl
theorem at_step (c : CallS) (x f a : Int) (hx : sm x) (t s : Option Sl) : exs c 100000 p_poly_at_0 [t, some (I_ x), some (I_ f), some (I_ a)] = some (.nx [t, some (I_ x), some (I_ (f * x + a)), some (I_ a)]) := by
  unfold p_poly_at_0
  rw [exs_asg (bin_add (bin_mul rfl rfl (mul_small hx)) rfl) rfl]
  rfl
theorem at_loop (c : CallS) (x : Int) (hx : sm x) (t : Option Sl) : ∀ (ns : List Int) (f : Int) (s : Option Sl), ∃ s', forL (turnF c 100000 (.nm 3) p_poly_at_0) (ns.map .int) [t, some (I_ x), some (I_ f), s] = some (.nx [t, some (I_ x), some (I_ (hor x ns f)), s'])
  | [], f, s => ⟨s, rfl⟩
  | a :: ns, f, s => by
    obtain ⟨s', h⟩ := at_loop c x hx t ns (f * x + a) (some (I_ a))
    refine ⟨s', ?_⟩
    rw [List.map_cons, forL_nx (turn_ok rfl (at_step c x f a hx t s))]
    exact h
theorem poly_at (k : Nat) (ns : List Int) (x : Int) (hx : sm x) : cl (k + 1) "poly_at" [T_ ns, I_ x] = some (I_ (pAt ns x), [tI_ ns, .int x]) := by
  obtain ⟨s', h⟩ := at_loop (cl k) x hx (some (T_ ns)) ns.reverse 0 none
  rw [List.map_reverse] at h
  show runDef (cl k) 100000 2 4 d_poly_at.body [T_ ns, I_ x] = _
  refine run_rt (ρ' := [some (T_ ns), some (I_ x), some (I_ (pAt ns x)), s']) rfl ?_ rfl rfl
  show exs (cl k) 100000 d_poly_at.body [some (T_ ns), some (I_ x), none, none] = _
  unfold d_poly_at
  rw [exs_asg rfl rfl, exs_for (ds := (ns.map PyData.int).reverse) rfl h]
  exact exs_ret (r := (I_ (pAt ns x), [some (T_ ns), some (I_ x), some (I_ (pAt ns x)), s'])) rfl rfl
/-- the longer one's length -/
def padTo (n : Nat) (ns : List Int) : List Int := ns ++ List.replicate (n - ns.length) 0
def pAdd (a b : List Int) : List Int := (((padTo (max a.length b.length) a).zip (padTo (max a.length b.length) b))).map fun p => p.1 + p.2
theorem poly_times (k : Nat) (ns : List Int) (m : Int) (hm : sm m) (hl : ns.length ≤ 100) : cl (k + 1) "poly_times" [T_ ns, I_ m] = some (T_ (ns.map fun a => m * a), [tI_ ns, .int m]) := by
  show runDef (cl k) 100000 2 3 d_poly_times.body [T_ ns, I_ m] = _
  refine run_rt (ρ' := [some (T_ ns), some (I_ m), none]) rfl ?_ rfl rfl
  show exs (cl k) 100000 d_poly_times.body [some (T_ ns), some (I_ m), none] = _
  unfold d_poly_times
  have c := ev_comp_ (cl := cl k) (ρ := [some (T_ ns), some (I_ m), none]) (ρ1 := [some (T_ ns), some (I_ m), none]) (elt := p_poly_times_0) (p := .nm 2) (it := .e (.sh 0)) (own := [2]) (ds := ns.map .int) (fun d => match d with | .int a => .int (m * a) | d => d) rfl (len_lim hl) rfl fun d hd => by
    obtain ⟨a, _, rfl⟩ := List.mem_map.mp hd
    refine ⟨[some (T_ ns), some (I_ m), some (I_ a)], [some (T_ ns), some (I_ m), some (I_ a)], rfl, ?_, rfl⟩
    rw [show ev (cl k) p_poly_times_0 [some (T_ ns), some (I_ m), some (I_ a)] = some (I_ (m * a), [some (T_ ns), some (I_ m), some (I_ a)]) from bin_mul rfl rfl (mul_small' hm)]
    exact keepS_ rfl
  rw [exs_ret (ev_b1_ c rfl rfl) rfl]
  show some (Out.rt (.sh, .tuple (List.map _ (List.map PyData.int ns))) _) = some (Out.rt (.sh, .tuple (List.map PyData.int (List.map _ ns))) _)
  rw [List.map_map, List.map_map]
  rfl
theorem is_below (k : Nat) (ns : List Int) (x : Int) (hx : sm x) : cl (k + 2) "is_below" [T_ ns, I_ x] = some ((.sh, .bool (decide (pAt ns x < 0))), [tI_ ns, .int x]) := by
  show runDef (cl (k + 1)) 100000 2 2 d_is_below.body [T_ ns, I_ x] = _
  refine run_rt (ρ' := [some (T_ ns), some (I_ x)]) rfl ?_ rfl rfl
  show exs (cl (k + 1)) 100000 d_is_below.body [some (T_ ns), some (I_ x)] = _
  unfold d_is_below
  have c : ev (cl (k + 1)) (.call "poly_at" (.cons (.sh 0) (.cons (.sh 1) .nil))) [some (T_ ns), some (I_ x)] = some (I_ (pAt ns x), [some (T_ ns), some (I_ x)]) := ev_call_ (D := [.inl (tI_ ns), .inl (.int x)]) rfl rfl (poly_at k ns x hx) rfl rfl
  rw [exs_ret (ev_cmp_ c rfl rfl rfl rfl) rfl]
end K53

end
section
set_option Elab.async false
set_option linter.all false
set_option maxRecDepth 100000
set_option maxHeartbeats 4000000
/-! k53, sum and product on data. -/
namespace K53
open PySem Mini
theorem bin_sub {c : CallS} {a b : E} {ρ ρ1 ρ2 : En} {i j : Int} (h1 : ev c a ρ = some ((.sh, .int i), ρ1)) (h2 : ev c b ρ1 = some ((.sh, .int j), ρ2)) : ev c (.bin .sub a b) ρ = some ((.sh, .int (i - j)), ρ2) :=
  ev_bin_ h1 rfl h2 rfl rfl
theorem zipD_ints (a b : List Int) : zipD (a.map .int) (b.map .int) = (a.zip b).map fun p => .tuple [.int p.1, .int p.2] := by
  unfold zipD
  rw [List.zip_map, List.map_map]
  rfl
theorem ev_len {c : CallS} {ρ : En} {i : Nat} {a : List Int} (h : rd ρ i = some (T_ a)) : ev c (.b1 .len (.v i)) ρ = some (I_ (a.length : Nat), ρ) := by
  have h1 : ev c (.v i) ρ = some (T_ a, ρ) := by simp only [ev, h]
  rw [ev_b1_ h1 rfl (z := I_ ((a.map PyData.int).length : Nat)) rfl, List.length_map]
theorem pad_ev {c : CallS} {ρ : En} {i n : Nat} {a : List Int} (h : rd ρ i = some (T_ a)) (h2 : rd ρ 2 = some (I_ (n : Nat))) (hn : n ≤ 100) (ha : a.length ≤ n) :
    ev c (.tup (.star (.v i) (.star (.bin .mul (.lst (.cons (.int 0) .nil)) (.bin .sub (.v 2) (.b1 .len (.v i)))) .nil))) ρ = some (T_ (padTo n a), ρ) := by
  have h1 : ev c (.v i) ρ = some (T_ a, ρ) := by simp only [ev, h]
  have h3 : ev c (.v 2) ρ = some (I_ (n : Nat), ρ) := by simp only [ev, h2]
  have h4 : ev c (.bin .sub (.v 2) (.b1 .len (.v i))) ρ = some (I_ ((n : Int) - (a.length : Nat)), ρ) := ev_bin_ h3 rfl (ev_len h) rfl rfl
  have e : ((n : Int) - (a.length : Nat)).toNat = n - a.length := by omega
  have h5 : ev c (.bin .mul (.lst (.cons (.int 0) .nil)) (.bin .sub (.v 2) (.b1 .len (.v i)))) ρ = some ((.own, .list (List.replicate (n - a.length) (.int 0))), ρ) := by
    refine ev_bin_ (r := ((.own, .list [.int 0]), ρ)) rfl rfl h4 rfl ?_
    show (if 1 * ((n : Int) - (a.length : Nat)).toNat ≤ lim ∧ ((n : Int) - (a.length : Nat)).natAbs < 2 ^ 60 then some (Fl.own, PyData.list (List.replicate ((n : Int) - (a.length : Nat)).toNat [PyData.int 0]).flatten) else none) = _
    rw [if_pos ⟨by rw [e]; exact Nat.le_trans (by omega) (show 100 ≤ lim by decide), by omega⟩, e, flat_rep]
  have h6 := evL_star_ (r := .nil) h5 rfl rfl rfl
  have h7 := evL_star_ h1 rfl rfl h6
  rw [ev_tup_ h7 (by simp; exact Nat.le_trans (by omega) (show 100 ≤ lim by decide))]
  unfold padTo
  simp [tI_, T_]
theorem padTo_len {n : Nat} {a : List Int} (h : a.length ≤ n) : (padTo n a).length = n := by
  unfold padTo
  simp
  omega
theorem poly_sum (k : Nat) (a b : List Int) (ha : a.length ≤ 100) (hb : b.length ≤ 100) : cl (k + 1) "poly_sum" [T_ a, T_ b] = some (T_ (pAdd a b), [tI_ a, tI_ b]) := by
  show runDef (cl k) 100000 2 5 d_poly_sum.body [T_ a, T_ b] = _
  generalize hn : max a.length b.length = n
  have hn' : n ≤ 100 := by omega
  refine run_rt (ρ' := [some (T_ (padTo n a)), some (T_ (padTo n b)), some (I_ (n : Nat)), none, none]) rfl ?_ rfl rfl
  show exs (cl k) 100000 d_poly_sum.body [some (T_ a), some (T_ b), none, none, none] = _
  unfold d_poly_sum
  have m1 : ev (cl k) (.b2 .max (.b1 .len (.v 0)) (.b1 .len (.v 1))) [some (T_ a), some (T_ b), none, none, none] = some (I_ (n : Nat), [some (T_ a), some (T_ b), none, none, none]) := by
    refine ev_b2_ (keep_ (ev_len (a := a) rfl) rfl) (keep_ (ev_len (a := b) rfl) rfl) ?_
    show some (Fl.sh, PyData.int (if ((b.length : Nat) : Int) > (a.length : Nat) then (b.length : Nat) else (a.length : Nat))) = _
    congr 3
    split <;> omega
  rw [exs_asg (ρ' := [some (T_ a), some (T_ b), some (I_ (n : Nat)), none, none]) m1 rfl]
  have pa := pad_ev (c := cl k) (ρ := [some (T_ a), some (T_ b), some (I_ (n : Nat)), none, none]) (i := 0) (n := n) (a := a) rfl rfl hn' (by omega)
  have pb := pad_ev (c := cl k) (ρ := [some (T_ a), some (T_ b), some (I_ (n : Nat)), none, none]) (i := 1) (n := n) (a := b) rfl rfl hn' (by omega)
  rw [exs_par (ρ' := [some (T_ (padTo n a)), some (T_ (padTo n b)), some (I_ (n : Nat)), none, none]) (evP_cons_ pa rfl (evP_cons_ pb rfl evP_nil_)) rfl]
  have c := ev_comp_ (cl := cl k) (ρ := [some (T_ (padTo n a)), some (T_ (padTo n b)), some (I_ (n : Nat)), none, none]) (ρ1 := [some (T_ (padTo n a)), some (T_ (padTo n b)), some (I_ (n : Nat)), none, none]) (elt := p_poly_sum_0) (p := .tp (.cons (.nm 3) (.cons (.nm 4) .nil)))
    (it := .zip (.sh 0) (.sh 1)) (own := [3, 4]) (ds := zipD ((padTo n a).map .int) ((padTo n b).map .int)) (fun d => match d with | .tuple [.int x, .int y] => .int (x + y) | d => d) rfl (by
      rw [zipD_ints, List.length_map, List.length_zip, padTo_len (by omega), padTo_len (by omega)]
      exact Nat.le_trans (by omega) (show 100 ≤ lim by decide)) rfl fun d hd => by
    rw [zipD_ints] at hd
    obtain ⟨⟨x, y⟩, _, rfl⟩ := List.mem_map.mp hd
    refine ⟨[some (T_ (padTo n a)), some (T_ (padTo n b)), some (I_ (n : Nat)), some (I_ x), some (I_ y)], [some (T_ (padTo n a)), some (T_ (padTo n b)), some (I_ (n : Nat)), some (I_ x), some (I_ y)], rfl, rfl, rfl⟩
  rw [exs_ret (ev_b1_ c rfl rfl) rfl, zipD_ints]
  show some (Out.rt (.sh, .tuple (List.map _ (List.map _ _))) _) = some (Out.rt (.sh, .tuple (List.map PyData.int (pAdd a b))) _)
  unfold pAdd
  rw [hn, List.map_map, List.map_map]
  rfl
/-! ### product -/
/-- a row added from place i on -/
def addRow (x : Int) : List Int → Nat → List Int → List Int
  | [], _, F => F
  | y :: ys, m, F => addRow x ys (m + 1) (F.set m (F.getD m 0 + x * y))
def mulRows (b : List Int) : List Int → Nat → List Int → List Int
  | [], _, F => F
  | x :: xs, i, F => mulRows b xs (i + 1) (addRow x b i F)
def pMul (a b : List Int) : List Int := mulRows b a 0 (List.replicate (a.length + b.length - 1) 0)
def enumF (j : Nat) (ns : List Int) : List Dt := (ns.zipIdx j).map fun p => .tuple [.int (p.2 : Nat), .int p.1]
theorem enumD_ints (ns : List Int) : enumD (ns.map .int) = enumF 0 ns := by
  unfold enumD enumF
  rw [List.zipIdx_map, List.map_map]
  rfl
theorem addRow_len (x : Int) : ∀ (ys : List Int) (m : Nat) (F : List Int), (addRow x ys m F).length = F.length
  | [], _, _ => rfl
  | y :: ys, m, F => by rw [addRow, addRow_len x ys]; simp
section
variable (c : CallS) (a b : List Int)
theorem mul_step {F : List Int} {i j : Nat} {x y : Int} (hi : i + j < F.length) (hm : mulOk x y = true) : exs c 100000 p_poly_product_0 [some (T_ a), some (T_ b), some (.own, lI_ F), some (I_ (i : Nat)), some (I_ x), some (I_ (j : Nat)), some (I_ y)] =
    some (.nx [some (T_ a), some (T_ b), some (.own, lI_ (F.set (i + j) (F.getD (i + j) 0 + x * y))), some (I_ (i : Nat)), some (I_ x), some (I_ (j : Nat)), some (I_ y)]) := by
  unfold p_poly_product_0
  have hix : L2.ixN (F.map PyData.int).length ((i : Nat) + (j : Nat) : Int) = some (i + j) := by
    unfold L2.ixN
    rw [if_pos (by omega), if_pos (by rw [List.length_map]; omega)]
    congr 1
  have e1 : ev c (.bin .add (.v 3) (.v 5)) [some (T_ a), some (T_ b), some (.own, lI_ F), some (I_ (i : Nat)), some (I_ x), some (I_ (j : Nat)), some (I_ y)] = some (I_ ((i : Nat) + (j : Nat) : Int), [some (T_ a), some (T_ b), some (.own, lI_ F), some (I_ (i : Nat)), some (I_ x), some (I_ (j : Nat)), some (I_ y)]) := rfl
  have e2 := ev_idx_ (cl := c) (a := .v 2) (b := .bin .add (.v 3) (.v 5)) (ρ := [some (T_ a), some (T_ b), some (.own, lI_ F), some (I_ (i : Nat)), some (I_ x), some (I_ (j : Nat)), some (I_ y)]) (z := .int (F.getD (i + j) 0)) (r := ((.bo 2, lI_ F), _)) rfl rfl e1 rfl (by
    show ixD (F.map PyData.int) ((i : Nat) + (j : Nat) : Int) = _
    unfold ixD L2.atI
    rw [hix]
    show (F.map PyData.int)[i + j]? = _
    rw [List.getElem?_map, List.getElem?_eq_getElem hi, List.getD_eq_getElem?_getD, List.getElem?_eq_getElem hi]
    rfl)
  have e3 := bin_add e2 (bin_mul (c := c) (a := .v 4) (b := .v 6) (ρ := [some (T_ a), some (T_ b), some (.own, lI_ F), some (I_ (i : Nat)), some (I_ x), some (I_ (j : Nat)), some (I_ y)]) rfl rfl hm)
  rw [exs_setL (keep_ e3 rfl) rfl (keep_ e1 rfl) rfl hix, exs_nil]
  show some (Out.nx [some (T_ a), some (T_ b), some (.own, .list ((F.map PyData.int).set (i + j) (.int (F.getD (i + j) 0 + x * y)))), _, _, _, _]) = _
  rw [← List.map_set]
theorem mul_row {i : Nat} {x : Int} : ∀ (ys : List Int) (j : Nat) (F : List Int) (s t : Option Sl), (∀ y ∈ ys, mulOk x y = true) → i + j + ys.length ≤ F.length → ∃ s' t', forL (turnF c 100000 (.tp (.cons (.nm 5) (.cons (.nm 6) .nil))) p_poly_product_0) (enumF j ys) [some (T_ a), some (T_ b), some (.own, lI_ F), some (I_ (i : Nat)), some (I_ x), s, t] =
    some (.nx [some (T_ a), some (T_ b), some (.own, lI_ (addRow x ys (i + j) F)), some (I_ (i : Nat)), some (I_ x), s', t'])
  | [], j, F, s, t, _, _ => ⟨s, t, rfl⟩
  | y :: ys, j, F, s, t, hm, hl => by
    obtain ⟨s', t', h⟩ := mul_row (i := i) (x := x) ys (j + 1) (F.set (i + j) (F.getD (i + j) 0 + x * y)) (some (I_ (j : Nat))) (some (I_ y)) (fun y hy => hm y (List.mem_cons_of_mem _ hy)) (by simp at hl ⊢; omega)
    refine ⟨s', t', ?_⟩
    have e : enumF j (y :: ys) = .tuple [.int (j : Nat), .int y] :: enumF (j + 1) ys := by simp [enumF]
    have hi : i + j < F.length := by
      simp only [List.length_cons] at hl
      omega
    rw [e, forL_nx (turn_ok rfl (mul_step c a b hi (hm y (List.mem_cons_self ..))))]
    exact h
theorem mul_rows : ∀ (xs : List Int) (i : Nat) (F : List Int) (s t u v : Option Sl), (∀ x ∈ xs, ∀ y ∈ b, mulOk x y = true) → i + xs.length + b.length ≤ F.length + 1 → ∃ s' t' u' v', forL (turnF c 100000 (.tp (.cons (.nm 3) (.cons (.nm 4) .nil))) p_poly_product_1) (enumF i xs) [some (T_ a), some (T_ b), some (.own, lI_ F), s, t, u, v] =
    some (.nx [some (T_ a), some (T_ b), some (.own, lI_ (mulRows b xs i F)), s', t', u', v'])
  | [], i, F, s, t, u, v, _, _ => ⟨s, t, u, v, rfl⟩
  | x :: xs, i, F, s, t, u, v, hm, hl => by
    have hl' : i + (xs.length + 1) + b.length ≤ F.length + 1 := hl
    obtain ⟨u1, v1, h1⟩ := mul_row c a b (i := i) (x := x) b 0 F u v (fun y hy => hm x (List.mem_cons_self ..) y hy) (by omega)
    obtain ⟨s', t', u', v', h⟩ := mul_rows xs (i + 1) (addRow x b i F) (some (I_ (i : Nat))) (some (I_ x)) u1 v1 (fun x hx => hm x (List.mem_cons_of_mem _ hx)) (by rw [addRow_len]; omega)
    refine ⟨s', t', u', v', ?_⟩
    have e : enumF i (x :: xs) = .tuple [.int (i : Nat), .int x] :: enumF (i + 1) xs := by simp [enumF]
    have st : exs c 100000 p_poly_product_1 [some (T_ a), some (T_ b), some (.own, lI_ F), some (I_ (i : Nat)), some (I_ x), u, v] = some (.nx [some (T_ a), some (T_ b), some (.own, lI_ (addRow x b i F)), some (I_ (i : Nat)), some (I_ x), u1, v1]) := by
      unfold p_poly_product_1
      rw [exs_for (ds := enumF 0 b) (by rw [← enumD_ints]; rfl) h1]
      rfl
    rw [e, forL_nx (turn_ok rfl st)]
    exact h
end
theorem poly_product (k : Nat) (a b : List Int) (ha : a.length ≤ 100) (hb : b.length ≤ 100) (hm : ∀ x ∈ a, ∀ y ∈ b, mulOk x y = true) : cl (k + 1) "poly_product" [T_ a, T_ b] = some (T_ (pMul a b), [tI_ a, tI_ b]) := by
  show runDef (cl k) 100000 2 7 d_poly_product.body [T_ a, T_ b] = _
  generalize hn : a.length + b.length - 1 = n
  obtain ⟨s', t', u', v', h⟩ := mul_rows (cl k) a b a 0 (List.replicate n 0) none none none none hm (by simp; omega)
  refine run_rt (ρ' := [some (T_ a), some (T_ b), some (.own, lI_ (mulRows b a 0 (List.replicate n 0))), s', t', u', v']) rfl ?_ rfl rfl
  show exs (cl k) 100000 d_poly_product.body [some (T_ a), some (T_ b), none, none, none, none, none] = _
  unfold d_poly_product
  have h1 : ev (cl k) (.bin .mul (.lst (.cons (.int 0) .nil)) (.bin .sub (.bin .add (.b1 .len (.v 0)) (.b1 .len (.v 1))) (.int 1))) [some (T_ a), some (T_ b), none, none, none, none, none] = some ((.own, lI_ (List.replicate n 0)), [some (T_ a), some (T_ b), none, none, none, none, none]) := by
    have e : (((a.length : Nat) : Int) + (b.length : Nat) - 1).toNat = n := by omega
    have e2 : ev (cl k) (.bin .sub (.bin .add (.b1 .len (.v 0)) (.b1 .len (.v 1))) (.int 1)) [some (T_ a), some (T_ b), none, none, none, none, none] = some (I_ (((a.length : Nat) : Int) + (b.length : Nat) - 1), [some (T_ a), some (T_ b), none, none, none, none, none]) := bin_sub (bin_add (ev_len (a := a) rfl) (ev_len (a := b) rfl)) rfl
    refine ev_bin_ (r := ((.own, .list [.int 0]), _)) rfl rfl e2 rfl ?_
    show (if 1 * (((a.length : Nat) : Int) + (b.length : Nat) - 1).toNat ≤ lim ∧ (((a.length : Nat) : Int) + (b.length : Nat) - 1).natAbs < 2 ^ 60 then some (Fl.own, PyData.list (List.replicate (((a.length : Nat) : Int) + (b.length : Nat) - 1).toNat [PyData.int 0]).flatten) else none) = _
    rw [if_pos ⟨by rw [e]; exact Nat.le_trans (by omega) (show 1000 ≤ lim by decide), by omega⟩, e, flat_rep, lI_, List.map_replicate]
  rw [exs_asg (ρ' := [some (T_ a), some (T_ b), some (.own, lI_ (List.replicate n 0)), none, none, none, none]) h1 rfl, exs_for (ds := enumF 0 a) (by rw [← enumD_ints]; rfl) h, exs_ret (ev_b1_ (r := ((.bo 2, lI_ (mulRows b a 0 (List.replicate n 0))), _)) rfl rfl rfl) rfl]
  unfold pMul
  rw [hn]
end K53

end
section
set_option Elab.async false
set_option linter.all false
set_option maxRecDepth 100000
set_option maxHeartbeats 4000000
/-! k53, polynomials without noughts. -/
namespace K53
open PySem Mini
theorem canLay_ints (ns : List Int) : PyData.canLayAll0 (ns.map .int) = true := by
  induction ns with
  | nil => rfl
  | cons n ns ih => exact ih
theorem depth_ints (ns : List Int) : PyData.depthAll (ns.map .int) = 0 := by
  induction ns with
  | nil => rfl
  | cons n ns ih =>
    show max 0 (PyData.depthAll (ns.map .int)) = 0
    rw [ih]
    rfl
theorem flat_ints (ns : List Int) : flat (tI_ ns) = true := by
  unfold flat SeqAt.shaped
  have h1 : (tI_ ns).canLay0 = true := canLay_ints ns
  have h2 : (tI_ ns).depth = 1 := by
    show PyData.depthAll (ns.map .int) + 1 = 1
    rw [depth_ints]
  rw [h1, h2]
  rfl
theorem eqv_ints : ∀ a b : List Int, PyData.eqvAll (a.map .int) (b.map .int) = decide (a = b)
  | [], [] => rfl
  | [], _ :: _ => rfl
  | _ :: _, [] => rfl
  | x :: a, y :: b => by
    show (PyData.eqv (.int x) (.int y) && PyData.eqvAll (a.map .int) (b.map .int)) = _
    rw [eqv_ints a b]
    show ((x == y) && decide (a = b)) = decide (x :: a = y :: b)
    by_cases h : x = y <;> by_cases h2 : a = b <;> simp [h, h2]
/-- how many stand till the last one that isn't nought -/
def nzLen (ns : List Int) : Nat → Nat
  | 0 => 0
  | m + 1 => if ns.getD m 0 = 0 then nzLen ns m else m + 1
def short (ns : List Int) : List Int := ns.take (nzLen ns ns.length)
theorem nzLen_le (ns : List Int) : ∀ m, nzLen ns m ≤ m
  | 0 => Nat.le_refl _
  | m + 1 => by
    unfold nzLen
    split
    · exact Nat.le_succ_of_le (nzLen_le ns m)
    · exact Nat.le_refl _
theorem cut_take {α : Type} (xs : List α) (m : Nat) (h : m ≤ xs.length) : cutD xs none (some (m : Int)) = xs.take m := by
  unfold cutD
  rw [HT.sIx_nat, HT.sIx_none, Nat.min_eq_left h]
  simp
theorem cut_last {α : Type} (xs : List α) : cutD xs none (some (-1)) = xs.dropLast := by
  have e : HT.sIx xs.length xs.length (some (-1)) = xs.length - 1 := by
    show (if (-1 : Int) < 0 then ((-1 : Int) + (xs.length : Nat)).toNat else min (-1 : Int).toNat xs.length) = xs.length - 1
    rw [if_pos (by decide)]
    omega
  unfold cutD
  rw [e, HT.sIx_none, List.dropLast_eq_take]
  simp
theorem wn_test (c : CallS) (a : List Int) (m : Nat) (h : m ≤ a.length) : tv c p_without_noughts_0 [some (T_ a), some (I_ (m : Nat))] = some (decide (0 < m ∧ a.getD (m - 1) 0 = 0), [some (T_ a), some (I_ (m : Nat))]) := by
  unfold p_without_noughts_0
  by_cases h0 : 0 < m
  · have e1 : ev c (.cmp .gt (.v 1) (.int 0)) [some (T_ a), some (I_ (m : Nat))] = some ((.sh, .bool true), [some (T_ a), some (I_ (m : Nat))]) := by
      rw [ev_cmp_ (z := decide ((0 : Int) < (m : Nat))) rfl rfl rfl rfl rfl, decide_eq_true (by omega)]
    have e2 : ev c (.idx (.v 0) (.bin .sub (.v 1) (.int 1))) [some (T_ a), some (I_ (m : Nat))] = some (I_ (a.getD (m - 1) 0), [some (T_ a), some (I_ (m : Nat))]) := by
      refine ev_idx_ (r := (T_ a, _)) (q := (I_ ((m : Nat) - 1), _)) rfl rfl rfl rfl ?_
      show ixD (a.map PyData.int) ((m : Nat) - 1 : Int) = _
      unfold ixD L2.atI L2.ixN
      rw [if_pos (by omega), if_pos (by rw [List.length_map]; omega)]
      show (a.map PyData.int)[((m : Int) - 1).toNat]? = _
      have e : ((m : Int) - 1).toNat = m - 1 := by omega
      rw [e, List.getElem?_map, List.getElem?_eq_getElem (by omega), List.getD_eq_getElem?_getD, List.getElem?_eq_getElem (by omega)]
      rfl
    have e3 : ev c (.cmp .eq (.idx (.v 0) (.bin .sub (.v 1) (.int 1))) (.int 0)) [some (T_ a), some (I_ (m : Nat))] = some ((.sh, .bool (decide (a.getD (m - 1) 0 = 0))), [some (T_ a), some (I_ (m : Nat))]) := ev_cmp_ (q := (I_ 0, [some (T_ a), some (I_ (m : Nat))])) e2 rfl rfl rfl rfl
    rw [tv_ (ev_andT (keep_ e1 rfl) rfl (keep_ e3 rfl)) rfl rfl]
    simp [h0]
  · have e1 : ev c (.cmp .gt (.v 1) (.int 0)) [some (T_ a), some (I_ (m : Nat))] = some ((.sh, .bool false), [some (T_ a), some (I_ (m : Nat))]) := by
      rw [ev_cmp_ (z := decide ((0 : Int) < (m : Nat))) rfl rfl rfl rfl rfl, decide_eq_false (by omega)]
    rw [tv_ (ev_andF (keep_ e1 rfl) rfl) rfl rfl]
    simp [h0]
theorem wn_loop (c : CallS) (a : List Int) : ∀ (m fuel : Nat), m < fuel → m ≤ a.length → whL (tv c p_without_noughts_0) (exs c 100000 p_without_noughts_1) fuel [some (T_ a), some (I_ (m : Nat))] = some (.nx [some (T_ a), some (I_ (nzLen a m : Nat))])
  | 0, fuel + 1, _, h => by
    rw [whL_end (by rw [wn_test c a 0 h]; rfl)]
    rfl
  | m + 1, fuel + 1, hf, h => by
    by_cases h0 : a.getD m 0 = 0
    · have st : exs c 100000 p_without_noughts_1 [some (T_ a), some (I_ ((m + 1 : Nat) : Int))] = some (.nx [some (T_ a), some (I_ (m : Nat))]) := by
        unfold p_without_noughts_1
        have e : ev c (.bin .sub (.v 1) (.int 1)) [some (T_ a), some (I_ ((m + 1 : Nat) : Int))] = some (I_ (m : Nat), [some (T_ a), some (I_ ((m + 1 : Nat) : Int))]) := by
          rw [bin_sub (i := ((m + 1 : Nat) : Int)) (j := 1) rfl rfl]
          congr 4
          omega
        rw [exs_asg (ρ' := [some (T_ a), some (I_ (m : Nat))]) e rfl]
        rfl
      rw [whL_step (by rw [wn_test c a (m + 1) h, decide_eq_true (by simpa using h0)]) st, wn_loop c a m fuel (by omega) (by omega)]
      simp only [nzLen, h0, if_true]
    · rw [whL_end (by rw [wn_test c a (m + 1) h, decide_eq_false (by simpa using h0)])]
      simp only [nzLen, h0, if_false]
theorem without_noughts (k : Nat) (a : List Int) (ha : a.length ≤ 100) : cl (k + 1) "without_noughts" [T_ a] = some (T_ (short a), [tI_ a]) := by
  show runDef (cl k) 100000 1 2 d_without_noughts.body [T_ a] = _
  refine run_rt (ρ' := [some (T_ a), some (I_ (nzLen a a.length : Nat))]) rfl ?_ rfl rfl
  show exs (cl k) 100000 d_without_noughts.body [some (T_ a), none] = _
  unfold d_without_noughts
  rw [exs_asg (ρ' := [some (T_ a), some (I_ (a.length : Nat))]) (ev_len (a := a) rfl) rfl, exs_whl (wn_loop (cl k) a a.length 100000 (by omega) (Nat.le_refl _))]
  have e : ev (cl k) (.slU (.v 0) (.v 1)) [some (T_ a), some (I_ (nzLen a a.length : Nat))] = some (T_ (short a), [some (T_ a), some (I_ (nzLen a a.length : Nat))]) := by
    show some ((Fl.sh, PyData.tuple (cutD (a.map PyData.int) none (some ((nzLen a a.length : Nat) : Int)))), _) = _
    rw [cut_take _ _ (by rw [List.length_map]; exact nzLen_le a _), ← List.map_take]
    rfl
  exact exs_ret e rfl
end K53

end
section
set_option Elab.async false
set_option linter.all false
set_option maxRecDepth 100000
set_option maxHeartbeats 4000000
/-! k53, the law's own defs on data; values of polynomials. -/
namespace K53
open PySem Mini
/-! ### values -/
def val (x : Int) : List Int → Int
  | [] => 0
  | a :: r => a + x * val x r
theorem hor_val (x : Int) : ∀ (ns : List Int) (f : Int), hor x ns f = f * x ^ ns.length + val x ns.reverse := by
  intro ns
  induction ns with
  | nil => intro f; simp [hor, val]
  | cons a r ih =>
    intro f
    have vs : ∀ (l : List Int) (b : Int), val x (l ++ [b]) = val x l + b * x ^ l.length := by
      intro l
      induction l with
      | nil => intro b; simp [val]
      | cons c l ih =>
        intro b
        simp only [List.cons_append, val, ih, List.length_cons, Int.pow_succ, Int.mul_add]
        have : x * (b * x ^ l.length) = b * (x ^ l.length * x) := by rw [Int.mul_comm, Int.mul_assoc]
        omega
    rw [hor, ih, List.reverse_cons, vs, List.length_reverse, List.length_cons, Int.pow_succ, Int.add_mul]
    have : f * x * x ^ r.length = f * (x ^ r.length * x) := by rw [Int.mul_assoc, Int.mul_comm x]
    omega
theorem pAt_val (ns : List Int) (x : Int) : pAt ns x = val x ns := by
  unfold pAt
  rw [hor_val, List.reverse_reverse, Int.zero_mul, Int.zero_add]
theorem val_rep0 (x : Int) : ∀ n : Nat, val x (List.replicate n 0) = 0
  | 0 => rfl
  | n + 1 => by rw [List.replicate_succ, val, val_rep0 x n]; simp
theorem val_append0 (x : Int) (n : Nat) : ∀ l : List Int, val x (l ++ List.replicate n 0) = val x l
  | [] => by rw [List.nil_append, val_rep0]; rfl
  | a :: l => by rw [List.cons_append, val, val_append0 x n l, val]
theorem val_zip (x : Int) : ∀ a b : List Int, a.length = b.length → val x ((a.zip b).map fun p => p.1 + p.2) = val x a + val x b
  | [], [], _ => rfl
  | u :: a, v :: b, h => by
    have ih := val_zip x a b (by simpa using h)
    simp only [List.zip_cons_cons, List.map_cons, val, ih, Int.mul_add]
    omega
  | [], _ :: _, h => by cases h
  | _ :: _, [], h => by cases h
theorem val_pAdd (x : Int) (a b : List Int) : val x (pAdd a b) = val x a + val x b := by
  unfold pAdd
  rw [val_zip x _ _ (by rw [padTo_len (by omega), padTo_len (by omega)])]
  unfold padTo
  rw [val_append0, val_append0]
theorem pAdd_len (a b : List Int) : (pAdd a b).length = max a.length b.length := by
  unfold pAdd
  rw [List.length_map, List.length_zip, padTo_len (by omega), padTo_len (by omega), Nat.min_self]
theorem val_times (x m : Int) : ∀ a : List Int, val x (a.map fun c => m * c) = m * val x a
  | [] => by simp [val]
  | c :: a => by
    simp only [List.map_cons, val, val_times x m a, Int.mul_add]
    have : x * (m * val x a) = m * (x * val x a) := by rw [← Int.mul_assoc, Int.mul_comm x m, Int.mul_assoc]
    omega
theorem val_set (x : Int) (c : Int) : ∀ (F : List Int) (m : Nat), m < F.length → val x (F.set m (F.getD m 0 + c)) = val x F + c * x ^ m
  | [], _, h => by simp at h
  | a :: F, 0, _ => by simp [val]; omega
  | a :: F, m + 1, h => by
    have ih := val_set x c F m (by simpa using h)
    simp only [List.set_cons_succ, val, List.getD_cons_succ, ih, Int.mul_add, Int.pow_succ]
    have : x * (c * x ^ m) = c * (x ^ m * x) := by rw [Int.mul_comm, Int.mul_assoc]
    omega
theorem val_row (x y : Int) : ∀ (ys : List Int) (m : Nat) (F : List Int), m + ys.length ≤ F.length → val x (addRow y ys m F) = val x F + y * x ^ m * val x ys
  | [], m, F, _ => by simp [addRow, val]
  | z :: ys, m, F, h => by
    have h' : m + (ys.length + 1) ≤ F.length := h
    rw [addRow, val_row x y ys (m + 1) _ (by simp; omega), val_set x _ F m (by omega), val, Int.pow_succ, Int.mul_add]
    have e1 : y * z * x ^ m = y * x ^ m * z := by rw [Int.mul_assoc, Int.mul_comm z, ← Int.mul_assoc]
    have e2 : y * (x ^ m * x) * val x ys = y * x ^ m * (x * val x ys) := by simp only [Int.mul_assoc]
    omega
theorem val_rows (x : Int) (b : List Int) : ∀ (as : List Int) (i : Nat) (F : List Int), i + as.length + b.length ≤ F.length + 1 → val x (mulRows b as i F) = val x F + x ^ i * val x as * val x b
  | [], i, F, _ => by simp [mulRows, val]
  | a :: as, i, F, h => by
    have h' : i + (as.length + 1) + b.length ≤ F.length + 1 := h
    rw [mulRows, val_rows x b as (i + 1) _ (by rw [addRow_len]; omega), val_row x a b i F (by omega), val, Int.pow_succ]
    have e1 : x ^ i * (a + x * val x as) * val x b = a * x ^ i * val x b + x ^ i * x * val x as * val x b := by
      rw [Int.mul_add, Int.add_mul, Int.mul_comm (x ^ i) a]
      simp only [Int.mul_assoc]
    rw [e1]
    omega
theorem val_pMul (x : Int) (a b : List Int) : val x (pMul a b) = val x a * val x b := by
  unfold pMul
  rw [val_rows x b a 0 _ (by simp; omega), val_rep0]
  simp
theorem mulRows_len (b : List Int) : ∀ (as : List Int) (i : Nat) (F : List Int), (mulRows b as i F).length = F.length
  | [], _, _ => rfl
  | a :: as, i, F => by rw [mulRows, mulRows_len b as, addRow_len]
theorem pMul_len (a b : List Int) : (pMul a b).length = a.length + b.length - 1 := by
  unfold pMul
  rw [mulRows_len, List.length_replicate]
/-! ### without noughts -/
theorem nzLen_app (ns ms : List Int) : ∀ m, m ≤ ns.length → nzLen (ns ++ ms) m = nzLen ns m
  | 0, _ => rfl
  | m + 1, h => by
    have e : (ns ++ ms).getD m 0 = ns.getD m 0 := by
      rw [List.getD_eq_getElem?_getD, List.getD_eq_getElem?_getD, List.getElem?_append_left (by omega)]
    rw [nzLen, nzLen, e, nzLen_app ns ms m (by omega)]
theorem short_snoc0 (ns : List Int) : short (ns ++ [0]) = short ns := by
  unfold short
  rw [List.length_append, List.length_singleton, nzLen]
  have e : (ns ++ [0]).getD ns.length 0 = 0 := by simp [List.getD_eq_getElem?_getD]
  rw [e, if_pos rfl, nzLen_app _ _ _ (Nat.le_refl _), List.take_append_of_le_length (nzLen_le ns _)]
theorem short_snoc (ns : List Int) {x : Int} (h : x ≠ 0) : short (ns ++ [x]) = ns ++ [x] := by
  unfold short
  rw [List.length_append, List.length_singleton, nzLen]
  have e : (ns ++ [x]).getD ns.length 0 = x := by simp [List.getD_eq_getElem?_getD]
  rw [e, if_neg h]
  exact List.take_of_length_le (by simp)
theorem val_short (x : Int) (ns : List Int) : val x (short ns) = val x ns := by
  induction hn : ns.length generalizing ns with
  | zero => rw [List.length_eq_zero_iff.mp hn]; rfl
  | succ n ih =>
    rcases List.eq_nil_or_concat ns with rfl | ⟨l, a, rfl⟩
    · cases hn
    · rw [List.concat_eq_append] at *
      by_cases ha : a = 0
      · subst ha
        rw [short_snoc0, ih l (by simpa using hn)]
        exact (val_append0 x 1 l).symm
      · rw [short_snoc l ha]
theorem ls_test (c : CallS) (a : List Int) : tv c p__law_short_0 [some (T_ a)] = some (decide (a ≠ [] ∧ a.getLast? = some 0), [some (T_ a)]) := by
  unfold p__law_short_0
  have e1 : ev c (.cmp .ne (.v 0) (.tup .nil)) [some (T_ a)] = some ((.sh, .bool (!decide (a = []))), [some (T_ a)]) := by
    refine ev_cmp_ (r := (T_ a, _)) (q := ((.sh, .tuple []), _)) rfl rfl rfl rfl ?_
    show (if flat (tI_ a) && flat (tI_ []) then some (!PyData.eqvAll (a.map .int) (([] : List Int).map .int)) else none) = _
    rw [flat_ints, flat_ints, eqv_ints]
    rfl
  rcases List.eq_nil_or_concat a with rfl | ⟨l, b, rfl⟩
  · rw [tv_ (ev_andF (keep_ e1 rfl) rfl) rfl rfl]
    rfl
  · rw [List.concat_eq_append] at *
    have hne : l ++ [b] ≠ [] := by simp
    rw [decide_eq_false hne] at e1
    have e2 : ev c (.idx (.v 0) (.neg (.int 1))) [some (T_ (l ++ [b]))] = some (I_ b, [some (T_ (l ++ [b]))]) := by
      refine ev_idx_ (r := (T_ (l ++ [b]), _)) (q := (I_ (-1), _)) rfl rfl rfl rfl ?_
      show ixD ((l ++ [b]).map PyData.int) (-1) = _
      unfold ixD L2.atI L2.ixN
      rw [if_neg (by decide), if_pos (by simp; omega)]
      show ((l ++ [b]).map PyData.int)[(-1 + (((l ++ [b]).map PyData.int).length : Nat) : Int).toNat]? = _
      have e : (-1 + (((l ++ [b]).map PyData.int).length : Nat) : Int).toNat = l.length := by simp; omega
      rw [e]
      simp
    have e3 : ev c (.cmp .eq (.idx (.v 0) (.neg (.int 1))) (.int 0)) [some (T_ (l ++ [b]))] = some ((.sh, .bool (decide (b = 0))), [some (T_ (l ++ [b]))]) := ev_cmp_ (q := (I_ 0, [some (T_ (l ++ [b]))])) e2 rfl rfl rfl rfl
    rw [tv_ (ev_andT (keep_ e1 rfl) rfl (keep_ e3 rfl)) rfl rfl]
    simp
theorem ls_loop (c : CallS) : ∀ (n fuel : Nat) (a : List Int), a.length = n → n < fuel → whL (tv c p__law_short_0) (exs c 100000 p__law_short_1) fuel [some (T_ a)] = some (.nx [some (T_ (short a))]) := by
  intro n
  induction n with
  | zero =>
    intro fuel a ha hf
    obtain ⟨f, rfl⟩ : ∃ f, fuel = f + 1 := ⟨fuel - 1, by omega⟩
    rw [List.length_eq_zero_iff.mp ha, whL_end (by rw [ls_test]; rfl)]
    rfl
  | succ n ih =>
    intro fuel a ha hf
    obtain ⟨f, rfl⟩ : ∃ f, fuel = f + 1 := ⟨fuel - 1, by omega⟩
    rcases List.eq_nil_or_concat a with rfl | ⟨l, b, rfl⟩
    · cases ha
    · rw [List.concat_eq_append] at *
      by_cases hb : b = 0
      · subst hb
        have st : exs c 100000 p__law_short_1 [some (T_ (l ++ [0]))] = some (.nx [some (T_ l)]) := by
          unfold p__law_short_1
          have e : ev c (.slU (.v 0) (.neg (.int 1))) [some (T_ (l ++ [0]))] = some (T_ l, [some (T_ (l ++ [0]))]) := by
            show some ((Fl.sh, PyData.tuple (cutD ((l ++ [0]).map PyData.int) none (some (-1)))), _) = _
            rw [cut_last, ← List.map_dropLast, List.dropLast_concat]
          rw [exs_asg (ρ' := [some (T_ l)]) e rfl]
          rfl
        rw [whL_step (by rw [ls_test, decide_eq_true (by simp)]) st, ih f l (by simpa using ha) (by omega), short_snoc0]
      · rw [whL_end (by rw [ls_test, decide_eq_false (by simp [hb])]), short_snoc l hb]
theorem law_short (k : Nat) (a : List Int) (ha : a.length ≤ 100) : cl (k + 1) "_law_short" [T_ a] = some (T_ (short a), [tI_ a]) := by
  show runDef (cl k) 100000 1 1 d__law_short.body [T_ a] = _
  refine run_rt (ρ' := [some (T_ (short a))]) rfl ?_ rfl rfl
  show exs (cl k) 100000 d__law_short.body [some (T_ a)] = _
  unfold d__law_short
  rw [exs_whl (ls_loop (cl k) a.length 100000 a rfl (by omega))]
  exact exs_ret (r := (T_ (short a), [some (T_ (short a))])) rfl rfl
end K53

end
section
set_option Elab.async false
set_option linter.all false
set_option maxRecDepth 100000
set_option maxHeartbeats 4000000
/-! k53, _law_at, difference_of, first_turned on data. -/
namespace K53
open PySem Mini
theorem la_step (c : CallS) (x f p a : Int) (hx : sm x) (hp : sm p) (t : Option Sl) : exs c 100000 p__law_at_0 [t, some (I_ x), some (I_ f), some (I_ p), some (I_ a)] = some (.nx [t, some (I_ x), some (I_ (f + a * p)), some (I_ (p * x)), some (I_ a)]) := by
  unfold p__law_at_0
  have e1 : ev c (.bin .add (.v 2) (.bin .mul (.v 4) (.v 3))) [t, some (I_ x), some (I_ f), some (I_ p), some (I_ a)] = some (I_ (f + a * p), [t, some (I_ x), some (I_ f), some (I_ p), some (I_ a)]) := bin_add rfl (bin_mul rfl rfl (mul_small hp))
  have e2 : ev c (.bin .mul (.v 3) (.v 1)) [t, some (I_ x), some (I_ f), some (I_ p), some (I_ a)] = some (I_ (p * x), [t, some (I_ x), some (I_ f), some (I_ p), some (I_ a)]) := bin_mul rfl rfl (mul_small hx)
  rw [exs_par (ρ' := [t, some (I_ x), some (I_ (f + a * p)), some (I_ (p * x)), some (I_ a)]) (evP_cons_ e1 rfl (evP_cons_ e2 rfl evP_nil_)) rfl]
  rfl
theorem la_loop (c : CallS) (x : Int) (hx : sm x) (t : Option Sl) : ∀ (ns : List Int) (f p : Int) (s : Option Sl), (∀ i < ns.length, sm (p * x ^ i)) → ∃ p' s', forL (turnF c 100000 (.nm 4) p__law_at_0) (ns.map .int) [t, some (I_ x), some (I_ f), some (I_ p), s] = some (.nx [t, some (I_ x), some (I_ (f + p * val x ns)), some (I_ p'), s'])
  | [], f, p, s, _ => ⟨p, s, by simp [val]; rfl⟩
  | a :: ns, f, p, s, hp => by
    have h0 : sm p := by have := hp 0 (by simp); simpa using this
    obtain ⟨p', s', h⟩ := la_loop c x hx t ns (f + a * p) (p * x) (some (I_ a)) fun i hi => by
      have := hp (i + 1) (by simpa using hi)
      rw [Int.pow_succ] at this
      rwa [Int.mul_assoc, Int.mul_comm x]
    refine ⟨p', s', ?_⟩
    rw [List.map_cons, forL_nx (turn_ok rfl (la_step c x f p a hx h0 t)), h, val, Int.mul_add]
    have e1 : a * p = p * a := Int.mul_comm a p
    have e2 : p * x * val x ns = p * (x * val x ns) := Int.mul_assoc ..
    rw [e1, e2, Int.add_assoc]
theorem law_at (k : Nat) (ns : List Int) (x : Int) (hx : sm x) (hp : ∀ i < ns.length, sm (x ^ i)) : cl (k + 1) "_law_at" [T_ ns, I_ x] = some (I_ (val x ns), [tI_ ns, .int x]) := by
  show runDef (cl k) 100000 2 5 d__law_at.body [T_ ns, I_ x] = _
  obtain ⟨p', s', h⟩ := la_loop (cl k) x hx (some (T_ ns)) ns 0 1 none fun i hi => by rw [Int.one_mul]; exact hp i hi
  rw [Int.zero_add, Int.one_mul] at h
  refine run_rt (ρ' := [some (T_ ns), some (I_ x), some (I_ (val x ns)), some (I_ p'), s']) rfl ?_ rfl rfl
  show exs (cl k) 100000 d__law_at.body [some (T_ ns), some (I_ x), none, none, none] = _
  unfold d__law_at
  rw [exs_asg (ρ' := [some (T_ ns), some (I_ x), some (I_ 0), some (I_ 1), none]) rfl rfl, exs_for (ds := ns.map PyData.int) rfl h]
  exact exs_ret (r := (I_ (val x ns), [some (T_ ns), some (I_ x), some (I_ (val x ns)), some (I_ p'), s'])) rfl rfl
/-! ### difference_of -/
def dStep (late : List Int) (a : Int) : List Int := pAdd (pMul late [1, 1]) [a]
def diff (ns : List Int) : List Int := short (pAdd (ns.reverse.foldl dStep [0]) (ns.map fun a => -1 * a))
theorem dStep_len (l : List Int) (a : Int) (h : 0 < l.length) : (dStep l a).length = l.length + 1 := by
  unfold dStep
  rw [pAdd_len, pMul_len]
  simp only [List.length_cons, List.length_nil]
  omega
theorem do_step (k : Nat) (t : Option Sl) (l : List Int) (a : Int) (hl : l.length ≤ 98) (h0 : 0 < l.length) : exs (cl (k + 1)) 100000 p_difference_of_0 [t, some (T_ l), some (I_ a)] = some (.nx [t, some (T_ (dStep l a)), some (I_ a)]) := by
  unfold p_difference_of_0
  have e1 : ev (cl (k + 1)) (.call "poly_product" (.cons (.sh 1) (.cons (.tup (.cons (.int 1) (.cons (.int 1) .nil))) .nil))) [t, some (T_ l), some (I_ a)] = some (T_ (pMul l [1, 1]), [t, some (T_ l), some (I_ a)]) :=
    ev_call_ (D := [.inl (tI_ l), .inl (tI_ [1, 1])]) (L := []) rfl rfl (poly_product k l [1, 1] (by omega) (by decide) fun x _ y hy => mul_small (by
      simp at hy
      subst hy
      decide)) rfl rfl
  have e2 : ev (cl (k + 1)) (.call "poly_sum" (.cons (.call "poly_product" (.cons (.sh 1) (.cons (.tup (.cons (.int 1) (.cons (.int 1) .nil))) .nil))) (.cons (.tup (.cons (.sh 2) .nil)) .nil))) [t, some (T_ l), some (I_ a)] = some (T_ (dStep l a), [t, some (T_ l), some (I_ a)]) := by
    refine ev_call_ (D := [.inl (tI_ (pMul l [1, 1])), .inl (tI_ [a])]) (L := []) (ρ1 := [t, some (T_ l), some (I_ a)]) ?_ rfl (poly_sum k (pMul l [1, 1]) [a] (by rw [pMul_len]; simp; omega) (by simp)) rfl rfl
    show ((keepS (ev (cl (k + 1)) (.call "poly_product" _) _)).bind fun x => _) = _
    rw [keep_ e1 rfl]
    rfl
  rw [exs_asg (ρ' := [t, some (T_ (dStep l a)), some (I_ a)]) e2 rfl]
  rfl
theorem do_loop (k : Nat) (t : Option Sl) : ∀ (ns l : List Int) (s : Option Sl), ns.length + l.length ≤ 98 → 0 < l.length → ∃ s', forL (turnF (cl (k + 1)) 100000 (.nm 2) p_difference_of_0) (ns.map .int) [t, some (T_ l), s] = some (.nx [t, some (T_ (ns.foldl dStep l)), s'])
  | [], l, s, _, _ => ⟨s, rfl⟩
  | a :: ns, l, s, h, h0 => by
    have h' : ns.length + 1 + l.length ≤ 98 := h
    obtain ⟨s', e⟩ := do_loop k t ns (dStep l a) (some (I_ a)) (by rw [dStep_len l a h0]; omega) (by rw [dStep_len l a h0]; omega)
    refine ⟨s', ?_⟩
    rw [List.map_cons, forL_nx (turn_ok rfl (do_step k t l a (by omega) h0))]
    exact e
theorem fold_len : ∀ (ns l : List Int), 0 < l.length → (ns.foldl dStep l).length = ns.length + l.length
  | [], l, _ => by simp
  | a :: ns, l, h => by
    rw [List.foldl_cons, fold_len ns _ (by rw [dStep_len l a h]; omega), dStep_len l a h, List.length_cons]
    omega
theorem difference_of (k : Nat) (ns : List Int) (h : ns.length ≤ 90) : cl (k + 2) "difference_of" [T_ ns] = some (T_ (diff ns), [tI_ ns]) := by
  show runDef (cl (k + 1)) 100000 1 3 d_difference_of.body [T_ ns] = _
  obtain ⟨s', e⟩ := do_loop k (some (T_ ns)) ns.reverse [0] none (by simp; omega) (by simp)
  rw [List.map_reverse] at e
  generalize hL : ns.reverse.foldl dStep [0] = L at e
  have hLl : L.length = ns.length + 1 := by rw [← hL, fold_len _ _ (by simp)]; simp
  refine run_rt (ρ' := [some (T_ ns), some (T_ L), s']) rfl ?_ rfl rfl
  show exs (cl (k + 1)) 100000 d_difference_of.body [some (T_ ns), none, none] = _
  unfold d_difference_of
  rw [exs_asg (ρ' := [some (T_ ns), some (T_ [0]), none]) rfl rfl, exs_for (ds := (ns.map PyData.int).reverse) rfl e]
  have e1 : ev (cl (k + 1)) (.call "poly_times" (.cons (.sh 0) (.cons (.neg (.int 1)) .nil))) [some (T_ ns), some (T_ L), s'] = some (T_ (ns.map fun a => -1 * a), [some (T_ ns), some (T_ L), s']) :=
    ev_call_ (D := [.inl (tI_ ns), .inl (.int (-1))]) (L := []) rfl rfl (poly_times k ns (-1) (show (-1 : Int).natAbs < 2 ^ 64 by decide) (by omega)) rfl rfl
  have e2 : ev (cl (k + 1)) (.call "poly_sum" (.cons (.sh 1) (.cons (.call "poly_times" (.cons (.sh 0) (.cons (.neg (.int 1)) .nil))) .nil))) [some (T_ ns), some (T_ L), s'] = some (T_ (pAdd L (ns.map fun a => -1 * a)), [some (T_ ns), some (T_ L), s']) := by
    refine ev_call_ (D := [.inl (tI_ L), .inl (tI_ (ns.map fun a => -1 * a))]) (L := []) (ρ1 := [some (T_ ns), some (T_ L), s']) ?_ rfl (poly_sum k L (ns.map fun a => -1 * a) (by omega) (by simp; omega)) rfl rfl
    show ((keepS (ev (cl (k + 1)) (.sh 1) _)).bind fun x => ((evA (cl (k + 1)) (.cons (.call "poly_times" _) .nil) x.2).map _)) = _
    show ((((keepS (ev (cl (k + 1)) (.call "poly_times" _) _)).bind fun x => _).map _)) = _
    rw [keep_ e1 rfl]
    rfl
  have e3 : ev (cl (k + 1)) (.call "without_noughts" (.cons (.call "poly_sum" (.cons (.sh 1) (.cons (.call "poly_times" (.cons (.sh 0) (.cons (.neg (.int 1)) .nil))) .nil))) .nil)) [some (T_ ns), some (T_ L), s'] = some (T_ (diff ns), [some (T_ ns), some (T_ L), s']) := by
    unfold diff
    rw [hL]
    refine ev_call_ (D := [.inl (tI_ (pAdd L (ns.map fun a => -1 * a)))]) (L := []) (ρ1 := [some (T_ ns), some (T_ L), s']) ?_ rfl (without_noughts k _ (by rw [pAdd_len]; simp; omega)) rfl rfl
    show ((keepS (ev (cl (k + 1)) (.call "poly_sum" _) _)).bind fun x => _) = _
    rw [keep_ e2 rfl]
    rfl
  exact exs_ret e3 rfl
theorem val_fold (x : Int) : ∀ (ns l : List Int), val x (ns.foldl dStep l) = hor (x + 1) ns (val x l)
  | [], l => rfl
  | a :: ns, l => by
    rw [List.foldl_cons, val_fold x ns, hor]
    congr 1
    unfold dStep
    rw [val_pAdd, val_pMul]
    simp [val]
    rw [Int.add_comm 1 x]
theorem val_diff (x : Int) (ns : List Int) : val x (diff ns) = val (x + 1) ns - val x ns := by
  unfold diff
  rw [val_short, val_pAdd, val_fold, val_times, hor_val, List.reverse_reverse]
  simp [val]
  omega
end K53

end
section
set_option Elab.async false
set_option linter.all false
set_option maxRecDepth 100000
set_option maxHeartbeats 4000000
/-! k53, the difference's length. -/
namespace K53
open PySem Mini
theorem short_cases (a : List Int) : short a = [] ∨ ∃ l b, b ≠ 0 ∧ short a = l ++ [b] := by
  induction hn : a.length generalizing a with
  | zero => rw [List.length_eq_zero_iff.mp hn]; exact .inl rfl
  | succ n ih =>
    rcases List.eq_nil_or_concat a with rfl | ⟨l, b, rfl⟩
    · cases hn
    · rw [List.concat_eq_append] at *
      by_cases hb : b = 0
      · subst hb
        rw [short_snoc0]
        exact ih l (by simpa using hn)
      · exact .inr ⟨l, b, hb, short_snoc l hb⟩
theorem short_idem (a : List Int) : short (short a) = short a := by
  rcases short_cases a with h | ⟨l, b, hb, h⟩
  · rw [h]; rfl
  · rw [h, short_snoc l hb]
theorem short_cons (c : Int) (r : List Int) : short (c :: r) = if short r = [] then (if c = 0 then [] else [c]) else c :: short r := by
  induction hn : r.length generalizing r with
  | zero =>
    rw [List.length_eq_zero_iff.mp hn]
    show short ([] ++ [c]) = _
    by_cases hc : c = 0
    · subst hc; rw [short_snoc0]; rfl
    · rw [short_snoc [] hc, show short ([] : List Int) = [] from rfl, if_pos rfl, if_neg hc]; rfl
  | succ n ih =>
    rcases List.eq_nil_or_concat r with rfl | ⟨l, b, rfl⟩
    · cases hn
    · rw [List.concat_eq_append] at *
      by_cases hb : b = 0
      · subst hb
        rw [← List.cons_append, short_snoc0, short_snoc0]
        exact ih l (by simpa using hn)
      · rw [← List.cons_append, short_snoc (c :: l) hb, short_snoc l hb]
        simp
theorem zero_all (N : Int) : ∀ a : List Int, (∀ x, N ≤ x → val x a = 0) → short a = []
  | [], _ => rfl
  | c :: r, h => by
    have hc : c = 0 := by
      have h1 := h (max N 1 + (c.natAbs : Int)) (by omega)
      rw [val] at h1
      generalize hx : max N 1 + (c.natAbs : Int) = x at h1
      have hdvd : x ∣ c := ⟨-val x r, by rw [Int.mul_neg]; omega⟩
      by_cases hc0 : c = 0
      · exact hc0
      · have := Int.natAbs_dvd_natAbs.mpr hdvd
        have := Nat.le_of_dvd (by omega) this
        omega
    subst hc
    have hr := zero_all (max N 1) r fun x hx => by
      have h1 := h x (by omega)
      rw [val, Int.zero_add] at h1
      rcases Int.mul_eq_zero.mp h1 with h2 | h2
      · omega
      · exact h2
    rw [short_cons, hr]
    rfl
theorem uniq (N : Int) : ∀ a b : List Int, (∀ x, N ≤ x → val x a = val x b) → short a = short b
  | [], b, h => (zero_all N b fun x hx => (h x hx).symm).symm
  | a, [], h => zero_all N a fun x hx => h x hx
  | c :: r, d :: q, h => by
    have hc : c = d := by
      have h1 := h (max N 1 + ((c - d).natAbs : Int)) (by omega)
      rw [val, val] at h1
      generalize hx : max N 1 + ((c - d).natAbs : Int) = x at h1
      have hdvd : x ∣ (c - d) := ⟨val x q - val x r, by rw [Int.mul_sub]; omega⟩
      by_cases hc0 : c - d = 0
      · omega
      · have := Int.natAbs_dvd_natAbs.mpr hdvd
        have := Nat.le_of_dvd (by omega) this
        omega
    subst hc
    have hr := uniq (max N 1) r q fun x hx => by
      have h1 := h x (by omega)
      rw [val, val] at h1
      have h2 : x * (val x r - val x q) = 0 := by rw [Int.mul_sub]; omega
      rcases Int.mul_eq_zero.mp h2 with h3 | h3 <;> omega
    rw [short_cons, short_cons, hr]
/-- the difference, by the lowest -/
def dR : List Int → List Int
  | [] => []
  | [_] => []
  | _ :: b :: r => pAdd (pAdd (dR (b :: r)) (0 :: dR (b :: r))) (b :: r)
theorem val_dR (x : Int) : ∀ s : List Int, val x (dR s) = val (x + 1) s - val x s
  | [] => by simp [dR, val]
  | [a] => by simp [dR, val]
  | a :: b :: r => by
    have ih := val_dR x (b :: r)
    rw [dR, val_pAdd, val_pAdd, val, ih]
    show _ = a + (x + 1) * val (x + 1) (b :: r) - (a + x * val x (b :: r))
    rw [Int.add_mul, Int.mul_sub]
    omega
theorem dR_len : ∀ s : List Int, (dR s).length = s.length - 1
  | [] => rfl
  | [_] => rfl
  | a :: b :: r => by
    have ih := dR_len (b :: r)
    rw [dR, pAdd_len, pAdd_len, List.length_cons, ih]
    simp only [List.length_cons]
    omega
theorem padTo_getD (n : Nat) (a : List Int) (i : Nat) : (padTo n a).getD i 0 = a.getD i 0 := by
  unfold padTo
  by_cases h : i < a.length
  · rw [List.getD_eq_getElem?_getD, List.getD_eq_getElem?_getD, List.getElem?_append_left h]
  · rw [List.getD_eq_getElem?_getD, List.getD_eq_getElem?_getD, List.getElem?_append_right (by omega), List.getElem?_replicate, List.getElem?_eq_none (l := a) (by omega)]
    split <;> rfl
theorem pAdd_getD (a b : List Int) (i : Nat) : (pAdd a b).getD i 0 = a.getD i 0 + b.getD i 0 := by
  by_cases h : i < max a.length b.length
  · have h1 : (padTo (max a.length b.length) a)[i]? = some (a.getD i 0) := by
      rw [← padTo_getD (max a.length b.length) a i, List.getD_eq_getElem?_getD, List.getElem?_eq_getElem (by rw [padTo_len (by omega)]; exact h)]
      rfl
    have h2 : (padTo (max a.length b.length) b)[i]? = some (b.getD i 0) := by
      rw [← padTo_getD (max a.length b.length) b i, List.getD_eq_getElem?_getD, List.getElem?_eq_getElem (by rw [padTo_len (by omega)]; exact h)]
      rfl
    unfold pAdd
    rw [List.getD_eq_getElem?_getD, List.getElem?_map, show ((padTo (max a.length b.length) a).zip (padTo (max a.length b.length) b))[i]? = some (a.getD i 0, b.getD i 0) from List.getElem?_zip_eq_some.mpr ⟨h1, h2⟩]
    rfl
  · rw [List.getD_eq_getElem?_getD, List.getElem?_eq_none (by rw [pAdd_len]; omega), List.getD_eq_getElem?_getD, List.getElem?_eq_none (by omega), List.getD_eq_getElem?_getD, List.getElem?_eq_none (by omega)]
    rfl
/-- the highest of the difference -/
theorem dR_top : ∀ s : List Int, 2 ≤ s.length → (dR s).getD (s.length - 2) 0 = ((s.length - 1 : Nat) : Int) * s.getD (s.length - 1) 0
  | a :: b :: r, _ => by
    rw [dR, pAdd_getD, pAdd_getD]
    have l := dR_len (b :: r)
    cases r with
    | nil => simp [dR]
    | cons c r =>
      have ih := dR_top (b :: c :: r) (by simp)
      simp only [List.length_cons] at ih l ⊢
      have e1 : r.length + 1 + 1 + 1 - 2 = r.length + 1 := by omega
      have e2 : r.length + 1 + 1 - 2 = r.length := by omega
      have e3 : r.length + 1 + 1 + 1 - 1 = r.length + 1 + 1 := by omega
      have e4 : r.length + 1 + 1 - 1 = r.length + 1 := by omega
      rw [e1, e3]
      rw [e2, e4] at ih
      have h1 : (dR (b :: c :: r)).getD (r.length + 1) 0 = 0 := by
        rw [List.getD_eq_getElem?_getD, List.getElem?_eq_none (by omega)]
        rfl
      rw [h1, List.getD_cons_succ, ih, List.getD_cons_succ, Int.zero_add]
      have h2 : ((r.length + 1 + 1 : Nat) : Int) = ((r.length + 1 : Nat) : Int) + 1 := by omega
      rw [h2, Int.add_mul, Int.one_mul]
      rfl
theorem short_of_top {a : List Int} (h : a = [] ∨ a.getD (a.length - 1) 0 ≠ 0) : short a = a := by
  rcases List.eq_nil_or_concat a with rfl | ⟨l, b, rfl⟩
  · rfl
  · rw [List.concat_eq_append] at *
    rcases h with h | h
    · simp at h
    · refine short_snoc l ?_
      simpa [List.getD_eq_getElem?_getD] using h
theorem diff_dR (ns : List Int) : diff ns = dR (short ns) := by
  have h1 : short (diff ns) = short (dR (short ns)) := uniq 0 _ _ fun x _ => by rw [val_diff, val_dR, val_short, val_short]
  have h2 : short (diff ns) = diff ns := by unfold diff; exact short_idem _
  rw [← h2, h1]
  refine short_of_top ?_
  rcases short_cases ns with h | ⟨l, b, hb, h⟩
  · rw [h]; exact .inl rfl
  · rw [h]
    by_cases hl : l = []
    · subst hl; exact .inl rfl
    · have hlen : 0 < l.length := List.length_pos_iff.mpr hl
      have h3 := dR_top (l ++ [b]) (by simp; omega)
      have h4 := dR_len (l ++ [b])
      simp only [List.length_append, List.length_singleton] at h3 h4
      refine .inr ?_
      rw [h4]
      have e : l.length + 1 - 1 - 1 = l.length + 1 - 2 := by omega
      rw [e, h3]
      have h5 : (l ++ [b]).getD (l.length + 1 - 1) 0 = b := by simp [List.getD_eq_getElem?_getD]
      rw [h5]
      intro z
      rcases Int.mul_eq_zero.mp z with z | z <;> omega
theorem diff_len (ns : List Int) : (diff ns).length = (short ns).length - 1 := by rw [diff_dR, dR_len]
theorem diff_short (ns : List Int) : short (diff ns) = diff ns := by unfold diff; exact short_idem _
end K53

end
section
set_option Elab.async false
set_option linter.all false
set_option maxRecDepth 100000
set_option maxHeartbeats 4000000
/-! k53, turns of a sign. -/
namespace K53
open PySem Mini
def B (p : List Int) (x : Int) : Bool := decide (val x p < 0)
def Pt (p : List Int) (x : Int) : Bool := B p x != B p (x - 1)
/-- l + 1 .. r -/
def seg (l r : Int) : List Int := (List.range (r - l).toNat).map fun i => l + 1 + (i : Nat)
def T (p : List Int) (l r : Int) : List Int := (seg l r).filter (Pt p)
theorem mem_seg {l r x : Int} : x ∈ seg l r ↔ l < x ∧ x ≤ r := by
  unfold seg
  rw [List.mem_map]
  constructor
  · rintro ⟨i, hi, rfl⟩
    rw [List.mem_range] at hi
    omega
  · rintro ⟨h1, h2⟩
    exact ⟨(x - l - 1).toNat, by rw [List.mem_range]; omega, by omega⟩
theorem seg_nil {l r : Int} (h : r ≤ l) : seg l r = [] := by
  unfold seg
  rw [show (r - l).toNat = 0 by omega]
  rfl
theorem seg_step {l r : Int} (h : l < r) : seg l r = (l + 1) :: seg (l + 1) r := by
  unfold seg
  rw [show (r - l).toNat = (r - (l + 1)).toNat + 1 by omega, List.range_succ_eq_map, List.map_cons, List.map_map]
  congr 1
  · omega
  · refine List.map_congr_left fun i _ => ?_
    show l + 1 + ((i + 1 : Nat) : Int) = l + 1 + 1 + (i : Nat)
    omega
theorem seg_app {l m r : Int} (h1 : l ≤ m) (h2 : m ≤ r) : seg l r = seg l m ++ seg m r := by
  generalize hn : (m - l).toNat = n
  induction n generalizing l with
  | zero =>
    have : l = m := by omega
    subst this
    rw [seg_nil (Int.le_refl l)]
    rfl
  | succ n ih =>
    rw [seg_step (show l < r by omega), seg_step (show l < m by omega), List.cons_append, ih (by omega) (by omega)]
theorem T_app {p : List Int} {l m r : Int} (h1 : l ≤ m) (h2 : m ≤ r) : T p l r = T p l m ++ T p m r := by
  unfold T
  rw [seg_app h1 h2, List.filter_append]
theorem T_step {p : List Int} {l r : Int} (h : l < r) : T p l r = if Pt p (l + 1) = true then (l + 1) :: T p (l + 1) r else T p (l + 1) r := by
  unfold T
  rw [seg_step h, List.filter_cons]
theorem T_nil {p : List Int} {l r : Int} (h : r ≤ l) : T p l r = [] := by
  unfold T
  rw [seg_nil h]
  rfl
/-- a sign that turns once at most -/
def Mono (b : Int → Bool) (l r : Int) : Prop := ∀ x y z, l ≤ x → x ≤ y → y ≤ z → z ≤ r → b x = b z → b y = b x
theorem mono_of {p q : List Int} {l r : Int} (hq : ∀ x, val x q = val (x + 1) p - val x p) (h : ∀ x, l < x → x < r → Pt q x = false) : Mono (B p) l r := by
  have const : ∀ n : Nat, ∀ x, x = l + n → x < r → B q x = B q l := by
    intro n
    induction n with
    | zero => intro x hx _; rw [hx]; congr 1; omega
    | succ n ih =>
      intro x hx hr
      have h1 := h x (by omega) hr
      have h2 := ih (x - 1) (by omega) (by omega)
      unfold Pt at h1
      rw [← h2]
      cases hb : B q x <;> cases hc : B q (x - 1) <;> simp_all
  have cst : ∀ x, l ≤ x → x < r → B q x = B q l := fun x h1 h2 => const (x - l).toNat x (by omega) h2
  cases hb : B q l with
  | false =>
    have up : ∀ n : Nat, ∀ x y, l ≤ x → y = x + n → y ≤ r → val x p ≤ val y p := by
      intro n
      induction n with
      | zero => intro x y _ hy _; rw [hy]; simp
      | succ n ih =>
        intro x y hx hy hr
        have h1 := ih x (y - 1) hx (by omega) (by omega)
        have h2 := cst (y - 1) (by omega) (by omega)
        rw [hb] at h2
        have h3 : ¬ val (y - 1) q < 0 := of_decide_eq_false h2
        have h4 := hq (y - 1)
        rw [show y - 1 + 1 = y by omega] at h4
        omega
    intro x y z hx hxy hyz hz e
    have h1 := up (y - x).toNat x y hx (by omega) (by omega)
    have h2 := up (z - y).toNat y z (by omega) (by omega) hz
    unfold B at e ⊢
    by_cases hv : val x p < 0
    · have hv2 : val z p < 0 := of_decide_eq_true (by rw [← e]; exact decide_eq_true hv)
      rw [decide_eq_true hv, decide_eq_true (by omega)]
    · rw [decide_eq_false hv, decide_eq_false (by omega)]
  | true =>
    have dn : ∀ n : Nat, ∀ x y, l ≤ x → y = x + n → y ≤ r → val y p ≤ val x p := by
      intro n
      induction n with
      | zero => intro x y _ hy _; rw [hy]; simp
      | succ n ih =>
        intro x y hx hy hr
        have h1 := ih x (y - 1) hx (by omega) (by omega)
        have h2 := cst (y - 1) (by omega) (by omega)
        rw [hb] at h2
        have h3 : val (y - 1) q < 0 := of_decide_eq_true h2
        have h4 := hq (y - 1)
        rw [show y - 1 + 1 = y by omega] at h4
        omega
    intro x y z hx hxy hyz hz e
    have h1 := dn (y - x).toNat x y hx (by omega) (by omega)
    have h2 := dn (z - y).toNat y z (by omega) (by omega) hz
    unfold B at e ⊢
    by_cases hv : val x p < 0
    · rw [decide_eq_true hv, decide_eq_true (by omega)]
    · have hv2 : ¬ val z p < 0 := of_decide_eq_false (by rw [← e]; exact decide_eq_false hv)
      rw [decide_eq_false hv, decide_eq_false (by omega)]
theorem T_same {p : List Int} {l r : Int} (m : Mono (B p) l r) (e : B p l = B p r) : T p l r = [] := by
  unfold T
  rw [List.filter_eq_nil_iff]
  intro x hx
  obtain ⟨h1, h2⟩ := mem_seg.mp hx
  unfold Pt
  rw [m l x r (Int.le_refl _) (by omega) h2 (Int.le_refl _) e, m l (x - 1) r (Int.le_refl _) (by omega) (by omega) (Int.le_refl _) e]
  simp
theorem filter_one {f : Int → Bool} {t : Int} : ∀ {l r : Int}, l < t → t ≤ r → f t = true → (∀ x, l < x → x ≤ r → x ≠ t → f x = false) → (seg l r).filter f = [t] := by
  intro l r h1 h2 h3 h4
  have e : seg l r = seg l (t - 1) ++ (t :: seg t r) := by
    rw [seg_app (l := l) (m := t - 1) (r := r) (by omega) (by omega), seg_step (l := t - 1) (r := r) (by omega), show t - 1 + 1 = t by omega]
  rw [e, List.filter_append, List.filter_cons, if_pos h3]
  have n1 : (seg l (t - 1)).filter f = [] := List.filter_eq_nil_iff.mpr fun x hx => by
    obtain ⟨a, b⟩ := mem_seg.mp hx
    rw [h4 x a (by omega) (by omega)]
    simp
  have n2 : (seg t r).filter f = [] := List.filter_eq_nil_iff.mpr fun x hx => by
    obtain ⟨a, b⟩ := mem_seg.mp hx
    rw [h4 x (by omega) b (by omega)]
    simp
  rw [n1, n2]
  rfl
theorem T_one {p : List Int} {l r t : Int} (m : Mono (B p) l r) (h1 : l < t) (h2 : t ≤ r) (h3 : B p t = B p r) (h4 : B p (t - 1) ≠ B p r) (h5 : B p l ≠ B p r) : T p l r = [t] := by
  have e : B p (t - 1) = B p l := by
    cases ha : B p (t - 1) <;> cases hb : B p l <;> cases hc : B p r <;> simp_all
  refine filter_one h1 h2 ?_ fun x hx hr hne => ?_
  · unfold Pt
    rw [h3]
    cases ha : B p (t - 1) <;> cases hc : B p r <;> simp_all
  · unfold Pt
    by_cases hlt : x < t
    · rw [m l x (t - 1) (Int.le_refl _) (by omega) (by omega) (by omega) e.symm, m l (x - 1) (t - 1) (Int.le_refl _) (by omega) (by omega) (by omega) e.symm]
      simp
    · rw [m t x r (by omega) (by omega) hr (Int.le_refl _) h3, m t (x - 1) r (by omega) (by omega) (by omega) (Int.le_refl _) h3]
      simp
/-! ### first_turned -/
theorem below_B (k : Nat) (ns : List Int) (x : Int) (hx : sm x) : cl (k + 2) "is_below" [T_ ns, I_ x] = some ((.sh, .bool (B ns x)), [tI_ ns, .int x]) := by
  rw [is_below k ns x hx, pAt_val]
  rfl
theorem ft_loop (k : Nat) (ns : List Int) (sd : Bool) : ∀ (n fuel : Nat) (lo hi : Int) (s : Option Sl), (hi - lo).toNat ≤ n → n < fuel → -1000 ≤ lo → hi ≤ 1000 → lo < hi → B ns hi = sd → B ns lo ≠ sd → ∃ t lo' s', lo < t ∧ t ≤ hi ∧ B ns t = sd ∧ B ns (t - 1) ≠ sd ∧
    whL (tv (cl (k + 2)) p_first_turned_0) (exs (cl (k + 2)) 100000 p_first_turned_1) fuel [some (T_ ns), some (I_ lo), some (I_ hi), some (.sh, .bool sd), s] = some (.nx [some (T_ ns), some (I_ lo'), some (I_ t), some (.sh, .bool sd), s']) := by
  intro n
  induction n with
  | zero => intro fuel lo hi s h _ _ _ h2; omega
  | succ n ih =>
    intro fuel lo hi s hn hf hlo hhi hlt hb hne
    obtain ⟨f, rfl⟩ : ∃ f, fuel = f + 1 := ⟨fuel - 1, by omega⟩
    have te : tv (cl (k + 2)) p_first_turned_0 [some (T_ ns), some (I_ lo), some (I_ hi), some (.sh, .bool sd), s] = some (decide (1 < hi - lo), [some (T_ ns), some (I_ lo), some (I_ hi), some (.sh, .bool sd), s]) := by
      unfold p_first_turned_0
      exact tv_ (r := ((.sh, .bool (decide (1 < hi - lo))), _)) rfl rfl rfl
    by_cases h1 : 1 < hi - lo
    · rw [decide_eq_true h1] at te
      generalize hm : (lo + hi).fdiv 2 = mid
      have hm1 : lo < mid ∧ mid < hi := by
        rw [Int.fdiv_eq_ediv_of_nonneg _ (by decide)] at hm
        omega
      have hsm : sm mid := by unfold sm; omega
      have e1 : ev (cl (k + 2)) (.bin .fdiv (.bin .add (.v 1) (.v 2)) (.int 2)) [some (T_ ns), some (I_ lo), some (I_ hi), some (.sh, .bool sd), s] = some (I_ mid, [some (T_ ns), some (I_ lo), some (I_ hi), some (.sh, .bool sd), s]) := by
        rw [← hm]
        exact ev_bin_ (r := (I_ (lo + hi), _)) (q := (I_ 2, _)) rfl rfl rfl rfl rfl
      have e2 : ev (cl (k + 2)) (.call "is_below" (.cons (.sh 0) (.cons (.sh 4) .nil))) [some (T_ ns), some (I_ lo), some (I_ hi), some (.sh, .bool sd), some (I_ mid)] = some ((.sh, .bool (B ns mid)), [some (T_ ns), some (I_ lo), some (I_ hi), some (.sh, .bool sd), some (I_ mid)]) :=
        ev_call_ (D := [.inl (tI_ ns), .inl (.int mid)]) (L := []) rfl rfl (below_B k ns mid hsm) rfl rfl
      have e3 : tv (cl (k + 2)) (.cmp .eq (.call "is_below" (.cons (.sh 0) (.cons (.sh 4) .nil))) (.v 3)) [some (T_ ns), some (I_ lo), some (I_ hi), some (.sh, .bool sd), some (I_ mid)] = some (decide (B ns mid = sd), [some (T_ ns), some (I_ lo), some (I_ hi), some (.sh, .bool sd), some (I_ mid)]) := by
        refine tv_ (r := ((.sh, .bool (decide (B ns mid = sd))), [some (T_ ns), some (I_ lo), some (I_ hi), some (.sh, .bool sd), some (I_ mid)])) (ev_cmp_ (q := ((.sh, .bool sd), [some (T_ ns), some (I_ lo), some (I_ hi), some (.sh, .bool sd), some (I_ mid)])) e2 rfl rfl rfl ?_) rfl rfl
        show cmpD .eq (.bool (B ns mid)) (.bool sd) = _
        cases B ns mid <;> cases sd <;> rfl
      by_cases hbm : B ns mid = sd
      · rw [decide_eq_true hbm] at e3
        obtain ⟨t, lo', s', a1, a2, a3, a4, a5⟩ := ih f lo mid (some (I_ mid)) (by omega) (by omega) hlo (by omega) hm1.1 hbm hne
        refine ⟨t, lo', s', a1, by omega, a3, a4, ?_⟩
        have st : exs (cl (k + 2)) 100000 p_first_turned_1 [some (T_ ns), some (I_ lo), some (I_ hi), some (.sh, .bool sd), s] = some (.nx [some (T_ ns), some (I_ lo), some (I_ mid), some (.sh, .bool sd), some (I_ mid)]) := by
          unfold p_first_turned_1
          rw [exs_asg (ρ' := [some (T_ ns), some (I_ lo), some (I_ hi), some (.sh, .bool sd), some (I_ mid)]) e1 rfl, exs_ifT (ρ' := [some (T_ ns), some (I_ lo), some (I_ mid), some (.sh, .bool sd), some (I_ mid)]) e3 rfl]
          rfl
        rw [whL_step te st]
        exact a5
      · rw [decide_eq_false hbm] at e3
        obtain ⟨t, lo', s', a1, a2, a3, a4, a5⟩ := ih f mid hi (some (I_ mid)) (by omega) (by omega) (by omega) hhi hm1.2 hb hbm
        refine ⟨t, lo', s', by omega, a2, a3, a4, ?_⟩
        have st : exs (cl (k + 2)) 100000 p_first_turned_1 [some (T_ ns), some (I_ lo), some (I_ hi), some (.sh, .bool sd), s] = some (.nx [some (T_ ns), some (I_ mid), some (I_ hi), some (.sh, .bool sd), some (I_ mid)]) := by
          unfold p_first_turned_1
          rw [exs_asg (ρ' := [some (T_ ns), some (I_ lo), some (I_ hi), some (.sh, .bool sd), some (I_ mid)]) e1 rfl, exs_ifF (ρ' := [some (T_ ns), some (I_ mid), some (I_ hi), some (.sh, .bool sd), some (I_ mid)]) e3 rfl]
          rfl
        rw [whL_step te st]
        exact a5
    · rw [decide_eq_false h1] at te
      have e : hi - 1 = lo := by omega
      exact ⟨hi, lo, s, hlt, Int.le_refl _, hb, by rw [e]; exact hne, whL_end te⟩
theorem first_turned (k : Nat) (ns : List Int) (lo hi : Int) (hlo : -1000 ≤ lo) (hhi : hi ≤ 1000) (hlt : lo < hi) (hne : B ns lo ≠ B ns hi) : ∃ t, lo < t ∧ t ≤ hi ∧ B ns t = B ns hi ∧ B ns (t - 1) ≠ B ns hi ∧ cl (k + 3) "first_turned" [T_ ns, I_ lo, I_ hi] = some (I_ t, [tI_ ns, .int lo, .int hi]) := by
  obtain ⟨t, lo', s', a1, a2, a3, a4, a5⟩ := ft_loop k ns (B ns hi) (hi - lo).toNat 100000 lo hi none (Nat.le_refl _) (by omega) hlo hhi hlt rfl hne
  refine ⟨t, a1, a2, a3, a4, ?_⟩
  show runDef (cl (k + 2)) 100000 3 5 d_first_turned.body [T_ ns, I_ lo, I_ hi] = _
  refine run_rt (ρ' := [some (T_ ns), some (I_ lo'), some (I_ t), some (.sh, .bool (B ns hi)), s']) rfl ?_ rfl rfl
  show exs (cl (k + 2)) 100000 d_first_turned.body [some (T_ ns), some (I_ lo), some (I_ hi), none, none] = _
  unfold d_first_turned
  have e2 : ev (cl (k + 2)) (.call "is_below" (.cons (.sh 0) (.cons (.sh 2) .nil))) [some (T_ ns), some (I_ lo), some (I_ hi), none, none] = some ((.sh, .bool (B ns hi)), [some (T_ ns), some (I_ lo), some (I_ hi), none, none]) :=
    ev_call_ (D := [.inl (tI_ ns), .inl (.int hi)]) (L := []) rfl rfl (below_B k ns hi (show hi.natAbs < 2 ^ 64 by omega)) rfl rfl
  rw [exs_asg (ρ' := [some (T_ ns), some (I_ lo), some (I_ hi), some (.sh, .bool (B ns hi)), none]) e2 rfl, exs_whl a5]
  exact exs_ret (r := (I_ t, [some (T_ ns), some (I_ lo'), some (I_ t), some (.sh, .bool (B ns hi)), s'])) rfl rfl
end K53

end
section
set_option Elab.async false
set_option linter.all false
set_option maxRecDepth 100000
set_option maxHeartbeats 4000000
/-! k53, sign_turns on data. -/
namespace K53
open PySem Mini
abbrev L_ (ns : List Int) : Sl := (.own, lI_ ns)
abbrev C_ (cs : List (List Int)) : Sl := (.own, .list (cs.map fun c => tI_ c))
theorem cut_drop {α : Type} (xs : List α) (m : Nat) : cutD xs (some (m : Int)) none = xs.drop m := by
  unfold cutD
  rw [HT.sIx_nat, HT.sIx_none]
  by_cases h : m ≤ xs.length
  · rw [Nat.min_eq_left h]
    exact List.take_of_length_le (by simp)
  · rw [Nat.min_eq_right (by omega), List.drop_eq_nil_of_le (by omega), List.drop_eq_nil_of_le (by omega)]
    simp
/-- every turn goes on -/
inductive Runs (f : En → Dt → Option Out) : List Dt → En → En → Prop
  | nil {ρ : En} : Runs f [] ρ ρ
  | cons {x : Dt} {xs : List Dt} {ρ ρ1 ρ2 : En} : f ρ x = some (.nx ρ1) → Runs f xs ρ1 ρ2 → Runs f (x :: xs) ρ ρ2
theorem Runs.app {f : En → Dt → Option Out} {xs ys : List Dt} {ρ ρ1 ρ2 : En} (h : Runs f xs ρ ρ1) (g : Runs f ys ρ1 ρ2) : Runs f (xs ++ ys) ρ ρ2 := by
  induction h with
  | nil => exact g
  | cons e _ ih => exact .cons e (ih g)
theorem Runs.run {f : En → Dt → Option Out} {xs : List Dt} {ρ ρ1 : En} (h : Runs f xs ρ ρ1) : forL f xs ρ = some (.nx ρ1) := by
  induction h with
  | nil => rfl
  | cons e _ ih => rw [forL_nx e]; exact ih
theorem ev_app_ {c : CallS} {ρ ρ1 : En} {i : Nat} {e : E} {x : Dt} {xs ys : List Dt} (h1 : rd ρ i = some (.own, .list ys)) (h2 : keepS (ev c e ρ) = some (x, ρ1)) (h3 : rd ρ1 i = some (.own, .list xs)) (h4 : xs.length < lim) : ev c (.app i e) ρ = some ((.sh, .none), ρ1.set i (some (.own, .list (xs ++ [x])))) := by
  simp only [ev, h1, h2, Option.bind_some, h3, h4, if_true]
/-! ### the chain -/
def chn : Nat → List Int → List (List Int)
  | 0, c => [c]
  | n + 1, c => if 1 < c.length then c :: chn n (diff c) else [c]
abbrev envC (p : List Int) (lo hi : Int) (cs : List (List Int)) : En := [some (T_ p), some (I_ lo), some (I_ hi), some (C_ cs), none, none, none, none, none, none]
theorem last_ev {c : CallS} {p : List Int} {lo hi : Int} (init : List (List Int)) (q : List Int) : ev c (.idx (.v 3) (.neg (.int 1))) (envC p lo hi (init ++ [q])) = some (T_ q, envC p lo hi (init ++ [q])) := by
  refine ev_idx_ (r := ((.bo 3, .list ((init ++ [q]).map fun c => tI_ c)), _)) (q := (I_ (-1), _)) rfl rfl rfl rfl ?_
  show ixD ((init ++ [q]).map fun c => tI_ c) (-1) = _
  unfold ixD L2.atI L2.ixN
  rw [if_neg (by decide), if_pos (by simp; omega)]
  show ((init ++ [q]).map fun c => tI_ c)[(-1 + (((init ++ [q]).map fun c => tI_ c).length : Nat) : Int).toNat]? = _
  have e : (-1 + (((init ++ [q]).map fun c => tI_ c).length : Nat) : Int).toNat = init.length := by simp; omega
  rw [e]
  simp
theorem ch_loop (k : Nat) (p : List Int) (lo hi : Int) : ∀ (n fuel : Nat) (init : List (List Int)) (q : List Int), q.length ≤ n + 1 → q.length ≤ 90 → init.length + n ≤ 1000 → short q = q → n < fuel →
    whL (tv (cl (k + 2)) p_sign_turns_0) (exs (cl (k + 2)) 100000 p_sign_turns_1) fuel (envC p lo hi (init ++ [q])) = some (.nx (envC p lo hi (init ++ chn n q))) := by
  have te : ∀ (init : List (List Int)) (q : List Int), tv (cl (k + 2)) p_sign_turns_0 (envC p lo hi (init ++ [q])) = some (decide (1 < q.length), envC p lo hi (init ++ [q])) := fun init q => by
    unfold p_sign_turns_0
    have e1 : ev (cl (k + 2)) (.b1 .len (.idx (.v 3) (.neg (.int 1)))) (envC p lo hi (init ++ [q])) = some (I_ (q.length : Nat), envC p lo hi (init ++ [q])) := by
      rw [ev_b1_ (last_ev init q) rfl (z := I_ ((q.map PyData.int).length : Nat)) rfl, List.length_map]
    rw [tv_ (r := ((.sh, .bool (decide ((1 : Int) < (q.length : Nat)))), envC p lo hi (init ++ [q]))) (ev_cmp_ (q := (I_ 1, envC p lo hi (init ++ [q]))) e1 rfl rfl rfl rfl) rfl rfl]
    by_cases h : 1 < q.length
    · rw [decide_eq_true h, decide_eq_true (by omega)]
    · rw [decide_eq_false h, decide_eq_false (by omega)]
  intro n
  induction n with
  | zero =>
    intro fuel init q h1 _ _ _ hf
    obtain ⟨f, rfl⟩ : ∃ f, fuel = f + 1 := ⟨fuel - 1, by omega⟩
    have t := te init q
    rw [decide_eq_false (by omega)] at t
    exact whL_end t
  | succ n ih =>
    intro fuel init q h1 h2 hi' hs hf
    obtain ⟨f, rfl⟩ : ∃ f, fuel = f + 1 := ⟨fuel - 1, by omega⟩
    have t := te init q
    by_cases hq : 1 < q.length
    · rw [decide_eq_true hq] at t
      have st : exs (cl (k + 2)) 100000 p_sign_turns_1 (envC p lo hi (init ++ [q])) = some (.nx (envC p lo hi ((init ++ [q]) ++ [diff q]))) := by
        unfold p_sign_turns_1
        have e1 : ev (cl (k + 2)) (.call "difference_of" (.cons (.idx (.v 3) (.neg (.int 1))) .nil)) (envC p lo hi (init ++ [q])) = some (T_ (diff q), envC p lo hi (init ++ [q])) := by
          refine ev_call_ (D := [.inl (tI_ q)]) (L := []) (ρ1 := envC p lo hi (init ++ [q])) ?_ rfl (difference_of k q h2) rfl rfl
          show ((keepS (ev (cl (k + 2)) (.idx (.v 3) (.neg (.int 1))) _)).bind fun x => _) = _
          rw [keep_ (last_ev init q) rfl]
          rfl
        rw [exs_exp (ev_app_ (ys := (init ++ [q]).map fun c => tI_ c) (xs := (init ++ [q]).map fun c => tI_ c) rfl (keep_ e1 rfl) rfl (by
          rw [List.length_map, List.length_append, List.length_singleton]
          exact Nat.lt_of_le_of_lt (show init.length + 1 ≤ 1001 by omega) (by decide)))]
        show some (Out.nx [_, _, _, some (.own, .list (((init ++ [q]).map fun c => tI_ c) ++ [tI_ (diff q)])), _, _, _, _, _, _]) = _
        rw [show ((init ++ [q]).map fun c => tI_ c) ++ [tI_ (diff q)] = ((init ++ [q]) ++ [diff q]).map fun c => tI_ c by rw [List.map_append (l₂ := [diff q])]; rfl]
      have hl := diff_len q
      rw [hs] at hl
      rw [whL_step t st, ih f (init ++ [q]) (diff q) (by omega) (by omega) (by simp; omega) (diff_short q) (by omega), chn, if_pos hq]
      simp
    · rw [decide_eq_false hq] at t
      rw [whL_end t, chn, if_neg hq]
/-! ### the turns of one, from the turns of its difference -/
abbrev envI (P C : Option Sl) (lo hi : Int) (tn es : Option Sl) (c acc : List Int) (u v : Option Sl) : En := [P, some (I_ lo), some (I_ hi), C, tn, some (T_ c), es, some (L_ acc), u, v]
theorem pair_step (k : Nat) (P C tn es : Option Sl) (lo hi : Int) (c acc : List Int) (a b : Int) (ha : -1000 ≤ a) (hb : b ≤ 1000) (hab : a ≤ b) (hl : acc.length ≤ 10000) (m : Mono (B c) a b) :
    exs (cl (k + 3)) 100000 p_sign_turns_2 (envI P C lo hi tn es c acc (some (I_ a)) (some (I_ b))) = some (.nx (envI P C lo hi tn es c (acc ++ T c a b) (some (I_ a)) (some (I_ b)))) := by
  unfold p_sign_turns_2
  have sa : sm a := by unfold sm; omega
  have sb : sm b := by unfold sm; omega
  have e1 : ev (cl (k + 3)) (.cmp .lt (.v 8) (.v 9)) (envI P C lo hi tn es c acc (some (I_ a)) (some (I_ b))) = some ((.sh, .bool (decide (a < b))), envI P C lo hi tn es c acc (some (I_ a)) (some (I_ b))) := rfl
  by_cases hlt : a < b
  · rw [decide_eq_true hlt] at e1
    have e2 : ev (cl (k + 3)) (.call "is_below" (.cons (.sh 5) (.cons (.sh 8) .nil))) (envI P C lo hi tn es c acc (some (I_ a)) (some (I_ b))) = some ((.sh, .bool (B c a)), envI P C lo hi tn es c acc (some (I_ a)) (some (I_ b))) :=
      ev_call_ (D := [.inl (tI_ c), .inl (.int a)]) (L := []) rfl rfl (below_B (k + 1) c a sa) rfl rfl
    have e3 : ev (cl (k + 3)) (.call "is_below" (.cons (.sh 5) (.cons (.sh 9) .nil))) (envI P C lo hi tn es c acc (some (I_ a)) (some (I_ b))) = some ((.sh, .bool (B c b)), envI P C lo hi tn es c acc (some (I_ a)) (some (I_ b))) :=
      ev_call_ (D := [.inl (tI_ c), .inl (.int b)]) (L := []) rfl rfl (below_B (k + 1) c b sb) rfl rfl
    have e4 : ev (cl (k + 3)) (.cmp .ne (.call "is_below" (.cons (.sh 5) (.cons (.sh 8) .nil))) (.call "is_below" (.cons (.sh 5) (.cons (.sh 9) .nil)))) (envI P C lo hi tn es c acc (some (I_ a)) (some (I_ b))) = some ((.sh, .bool (B c a != B c b)), envI P C lo hi tn es c acc (some (I_ a)) (some (I_ b))) := by
      refine ev_cmp_ (q := ((.sh, .bool (B c b)), envI P C lo hi tn es c acc (some (I_ a)) (some (I_ b)))) e2 rfl e3 rfl ?_
      show cmpD .ne (.bool (B c a)) (.bool (B c b)) = _
      cases B c a <;> cases B c b <;> rfl
    have e5 := tv_ (ev_andT (keep_ e1 rfl) rfl (keep_ e4 rfl)) rfl rfl
    by_cases hne : B c a = B c b
    · rw [show (B c a != B c b) = false by rw [hne]; simp] at e5
      rw [exs_ifF e5 rfl, T_same m hne, List.append_nil]
      rfl
    · rw [show (B c a != B c b) = true by simpa using hne] at e5
      obtain ⟨t, t1, t2, t3, t4, t5⟩ := first_turned k c a b ha hb hlt hne
      have e6 : ev (cl (k + 3)) (.call "first_turned" (.cons (.sh 5) (.cons (.sh 8) (.cons (.sh 9) .nil)))) (envI P C lo hi tn es c acc (some (I_ a)) (some (I_ b))) = some (I_ t, envI P C lo hi tn es c acc (some (I_ a)) (some (I_ b))) :=
        ev_call_ (D := [.inl (tI_ c), .inl (.int a), .inl (.int b)]) (L := []) rfl rfl t5 rfl rfl
      have e7 := exs_exp (fuel := 100000) (rest := .nil) (ev_app_ (i := 7) (ys := acc.map .int) (xs := acc.map .int) rfl (keep_ e6 rfl) rfl (by rw [List.length_map]; exact Nat.lt_of_le_of_lt hl (by decide)))
      rw [exs_ifT e5 e7, T_one m t1 t2 t3 t4 hne]
      show some (Out.nx [_, _, _, _, _, _, _, some (.own, .list (acc.map PyData.int ++ [PyData.int t])), _, _]) = _
      rw [show acc.map PyData.int ++ [PyData.int t] = (acc ++ [t]).map PyData.int by rw [List.map_append (l₂ := [t])]; rfl]
  · rw [decide_eq_false hlt] at e1
    have e5 := tv_ (ev_andF (b := .cmp .ne (.call "is_below" (.cons (.sh 5) (.cons (.sh 8) .nil))) (.call "is_below" (.cons (.sh 5) (.cons (.sh 9) .nil)))) (keep_ e1 rfl) rfl) rfl rfl
    rw [exs_ifF e5 rfl, T_nil (by omega), List.append_nil]
    rfl
def pairs : Int → List Int → List Dt
  | _, [] => []
  | a, t :: r => .tuple [.int a, .int t] :: pairs t r
theorem zip_pairs : ∀ (a : Int) (l : List Int), zipD ((a :: l).map .int) (l.map .int) = pairs a l
  | _, [] => rfl
  | a, t :: r => by
    show PyData.tuple [.int a, .int t] :: zipD ((t :: r).map .int) (r.map .int) = _
    rw [zip_pairs t r]
    rfl
theorem seg_len (l r : Int) : (seg l r).length = (r - l).toNat := by unfold seg; simp
theorem T_len (p : List Int) (l r : Int) : (T p l r).length ≤ (r - l).toNat := by
  unfold T
  rw [← seg_len l r]
  exact List.length_filter_le ..
theorem pair_loop (k : Nat) (P C tn es : Option Sl) (lo hi : Int) (c q : List Int) (hq : ∀ x, val x q = val (x + 1) c - val x c) (hhi : hi ≤ 1000) : ∀ (n : Nat) (a l : Int) (acc : List Int) (u v : Option Sl), (hi - l).toNat = n → -1000 ≤ a → a ≤ l → l ≤ hi → (∀ x, a < x → x ≤ l → Pt q x = false ∨ x = a) → acc.length + (hi - a).toNat ≤ 5000 →
    ∃ u' v', Runs (turnF (cl (k + 3)) 100000 (.tp (.cons (.nm 8) (.cons (.nm 9) .nil))) p_sign_turns_2) (pairs a (T q l hi ++ [hi])) (envI P C lo hi tn es c acc u v) (envI P C lo hi tn es c (acc ++ T c a hi) u' v') := by
  intro n
  induction n with
  | zero =>
    intro a l acc u v hn ha hal hlh hno hacc
    have : l = hi := by omega
    subst this
    rw [T_nil (Int.le_refl _)]
    have m : Mono (B c) a l := mono_of hq fun x h1 h2 => (hno x h1 (by omega)).elim id fun e => by omega
    exact ⟨_, _, .cons (turn_ok rfl (pair_step k P C tn es lo l c acc a l ha hhi hal (by omega) m)) .nil⟩
  | succ n ih =>
    intro a l acc u v hn ha hal hlh hno hacc
    have hlt : l < hi := by omega
    rw [T_step hlt]
    by_cases hp : Pt q (l + 1) = true
    · rw [if_pos hp]
      have m : Mono (B c) a (l + 1) := mono_of hq fun x h1 h2 => (hno x h1 (by omega)).elim id fun e => by omega
      have tl := T_len c a (l + 1)
      obtain ⟨u', v', r⟩ := ih (l + 1) (l + 1) (acc ++ T c a (l + 1)) (some (I_ a)) (some (I_ (l + 1))) (by omega) (by omega) (Int.le_refl _) (by omega) (fun x h1 h2 => by omega) (by simp; omega)
      refine ⟨u', v', .cons (turn_ok rfl (pair_step k P C tn es lo hi c acc a (l + 1) ha (by omega) (by omega) (by omega) m)) ?_⟩
      rw [T_app (l := a) (m := l + 1) (r := hi) (by omega) (by omega), ← List.append_assoc]
      exact r
    · rw [if_neg hp]
      exact ih a (l + 1) acc u v (by omega) ha (by omega) (by omega) (fun x h1 h2 => by
        by_cases hx : x = l + 1
        · subst hx; exact .inl (by simpa using hp)
        · exact hno x h1 (by omega)) hacc
end K53

end
section
set_option Elab.async false
set_option linter.all false
set_option maxRecDepth 100000
set_option maxHeartbeats 4000000
/-! k53, sign_turns. -/
namespace K53
open PySem Mini
abbrev envT (P C : Option Sl) (lo hi : Int) (ts : List Int) (o e l u v : Option Sl) : En := [P, some (I_ lo), some (I_ hi), C, some (L_ ts), o, e, l, u, v]
theorem turn_step (k : Nat) (P C : Option Sl) (lo hi : Int) (c q : List Int) (hq : ∀ x, val x q = val (x + 1) c - val x c) (h1 : -1000 ≤ lo) (h2 : hi ≤ 1000) (h3 : lo ≤ hi) (e l u v : Option Sl) : ∃ e' l' u' v',
    exs (cl (k + 3)) 100000 p_sign_turns_3 (envT P C lo hi (T q lo hi) (some (T_ c)) e l u v) = some (.nx (envT P C lo hi (T c lo hi) (some (T_ c)) e' l' u' v')) := by
  have tl := T_len q lo hi
  obtain ⟨u', v', r⟩ := pair_loop k P C (some (L_ (T q lo hi))) (some (.sh, lI_ (lo :: T q lo hi ++ [hi]))) lo hi c q hq h2 (hi - lo).toNat lo lo [] u v rfl h1 (Int.le_refl _) h3 (fun x a b => by omega) (by simp; omega)
  refine ⟨some (.sh, lI_ (lo :: T q lo hi ++ [hi])), some (L_ (T c lo hi)), u', v', ?_⟩
  unfold p_sign_turns_3
  have e1 : ev (cl (k + 3)) (.lst (.cons (.sh 1) (.star (.v 4) (.cons (.sh 2) .nil)))) (envT P C lo hi (T q lo hi) (some (T_ c)) e l u v) = some (L_ (lo :: T q lo hi ++ [hi]), envT P C lo hi (T q lo hi) (some (T_ c)) e l u v) := by
    refine (ev_lst_ (ds := .int lo :: ((T q lo hi).map .int ++ [.int hi])) rfl (by simp; exact Nat.le_trans (show _ ≤ 3000 by omega) (by decide))).trans ?_
    rw [show PyData.int lo :: ((T q lo hi).map PyData.int ++ [PyData.int hi]) = (lo :: T q lo hi ++ [hi]).map PyData.int by rw [List.map_append (l₂ := [hi])]; rfl]
  rw [exs_par (ρ' := envI P C lo hi (some (L_ (T q lo hi))) (some (L_ (lo :: T q lo hi ++ [hi]))) c [] u v) (evP_cons_ e1 rfl (evP_cons_ (x := (L_ [], envT P C lo hi (T q lo hi) (some (T_ c)) e l u v)) rfl rfl evP_nil_)) rfl]
  have e2 : evI (cl (k + 3)) (.zip (.sh 6) (.slL (.v 6) (.int 1))) (envI P C lo hi (some (L_ (T q lo hi))) (some (L_ (lo :: T q lo hi ++ [hi]))) c [] u v) = some (pairs lo (T q lo hi ++ [hi]), envI P C lo hi (some (L_ (T q lo hi))) (some (.sh, lI_ (lo :: T q lo hi ++ [hi]))) c [] u v) := by
    rw [← zip_pairs]
    show some (zipD ((lo :: T q lo hi ++ [hi]).map PyData.int) (cutD ((lo :: T q lo hi ++ [hi]).map PyData.int) (some ((1 : Nat) : Int)) none), _) = _
    rw [cut_drop]
    rfl
  rw [exs_for e2 r.run, List.nil_append]
  rw [exs_asg (r := (L_ (T c lo hi), envI P C lo hi (some (L_ (T q lo hi))) (some (.sh, lI_ (lo :: T q lo hi ++ [hi]))) c (T c lo hi) u' v')) (ρ' := envT P C lo hi (T c lo hi) (some (T_ c)) (some (.sh, lI_ (lo :: T q lo hi ++ [hi]))) (some (L_ (T c lo hi))) u' v') rfl rfl]
  rfl
theorem T_const {c : List Int} (h : c.length ≤ 1) (lo hi : Int) : T c lo hi = [] := by
  unfold T
  rw [List.filter_eq_nil_iff]
  intro x _
  unfold Pt B
  match c, h with
  | [], _ => simp [val]
  | [a], _ => simp [val]
theorem turns_loop (k : Nat) (P C : Option Sl) (lo hi : Int) (h1 : -1000 ≤ lo) (h2 : hi ≤ 1000) (h3 : lo ≤ hi) : ∀ (n : Nat) (c : List Int) (o e l u v : Option Sl), c.length ≤ n + 1 → short c = c → ∃ o' e' l' u' v',
    Runs (turnF (cl (k + 3)) 100000 (.nm 5) p_sign_turns_3) ((chn n c).map fun c => tI_ c).reverse (envT P C lo hi [] o e l u v) (envT P C lo hi (T c lo hi) o' e' l' u' v') := by
  have base : ∀ (c : List Int) (o e l u v : Option Sl), c.length ≤ 1 → ∃ o' e' l' u' v', Runs (turnF (cl (k + 3)) 100000 (.nm 5) p_sign_turns_3) [tI_ c] (envT P C lo hi [] o e l u v) (envT P C lo hi (T c lo hi) o' e' l' u' v') := fun c o e l u v hc => by
    obtain ⟨e', l', u', v', s⟩ := turn_step k P C lo hi c [] (fun x => by
      match c, hc with
      | [], _ => simp [val]
      | [a], _ => simp [val]) h1 h2 h3 e l u v
    rw [T_const (c := []) (by simp)] at s
    exact ⟨some (T_ c), e', l', u', v', .cons (turn_ok rfl s) .nil⟩
  intro n
  induction n with
  | zero => intro c o e l u v hc _; exact base c o e l u v hc
  | succ n ih =>
    intro c o e l u v hc hs
    by_cases hq : 1 < c.length
    · have hl := diff_len c
      rw [hs] at hl
      obtain ⟨o1, e1, l1, u1, v1, r1⟩ := ih (diff c) o e l u v (by omega) (diff_short c)
      obtain ⟨e', l', u', v', s⟩ := turn_step k P C lo hi c (diff c) (fun x => val_diff x c) h1 h2 h3 e1 l1 u1 v1
      refine ⟨some (T_ c), e', l', u', v', ?_⟩
      rw [chn, if_pos hq, List.map_cons, List.reverse_cons]
      exact r1.app (.cons (turn_ok rfl s) .nil)
    · rw [chn, if_neg hq]
      exact base c o e l u v (by omega)
theorem T_short (p : List Int) (lo hi : Int) : T (short p) lo hi = T p lo hi := by
  unfold T
  congr 1
  funext x
  unfold Pt B
  rw [val_short, val_short]
theorem short_le (p : List Int) : (short p).length ≤ p.length := by
  unfold short
  rw [List.length_take]
  omega
theorem sign_turns (k : Nat) (p : List Int) (lo hi : Int) (hp : p.length ≤ 90) (h1 : -1000 ≤ lo) (h2 : hi ≤ 1000) (h3 : lo ≤ hi) : cl (k + 4) "sign_turns" [T_ p, I_ lo, I_ hi] = some (T_ (T p lo hi), [tI_ p, .int lo, .int hi]) := by
  have sl := short_le p
  obtain ⟨o', e', l', u', v', r⟩ := turns_loop k (some (T_ p)) (some (C_ (chn 100 (short p)))) lo hi h1 h2 h3 100 (short p) none none none none none (by omega) (short_idem p)
  rw [T_short] at r
  have w := ch_loop (k + 1) p lo hi 100 100000 [] (short p) (by omega) (by omega) (by simp) (short_idem p) (by decide)
  rw [List.nil_append, List.nil_append] at w
  show runDef (cl (k + 3)) 100000 3 10 d_sign_turns.body [T_ p, I_ lo, I_ hi] = _
  refine run_rt (ρ' := envT (some (T_ p)) (some (C_ (chn 100 (short p)))) lo hi (T p lo hi) o' e' l' u' v') rfl ?_ rfl rfl
  show exs (cl (k + 3)) 100000 d_sign_turns.body [some (T_ p), some (I_ lo), some (I_ hi), none, none, none, none, none, none, none] = _
  unfold d_sign_turns
  have e1 : ev (cl (k + 3)) (.call "without_noughts" (.cons (.sh 0) .nil)) [some (T_ p), some (I_ lo), some (I_ hi), none, none, none, none, none, none, none] = some (T_ (short p), [some (T_ p), some (I_ lo), some (I_ hi), none, none, none, none, none, none, none]) :=
    ev_call_ (D := [.inl (tI_ p)]) (L := []) rfl rfl (without_noughts (k + 2) p (by omega)) rfl rfl
  have e2 := ev_lst_ (evL_cons_ (r := .nil) (keep_ e1 rfl) rfl) (show 1 ≤ lim by decide)
  rw [exs_asg (ρ' := envC p lo hi [short p]) e2 rfl, exs_whl w, exs_asg (ρ' := envT (some (T_ p)) (some (C_ (chn 100 (short p)))) lo hi [] none none none none none) rfl rfl,
    exs_for (ds := ((chn 100 (short p)).map fun c => tI_ c).reverse) rfl r.run]
  exact exs_ret (r := (T_ (T p lo hi), envT (some (T_ p)) (some (C_ (chn 100 (short p)))) lo hi (T p lo hi) o' e' l' u' v')) rfl rfl
end K53

end
section
set_option Elab.async false
set_option linter.all false
set_option maxRecDepth 100000
set_option maxHeartbeats 4000000
/-! k53, whole_roots: the plain part. -/
namespace K53
open PySem Mini
theorem insI_mem {x z : Int} : ∀ {l : List Int}, z ∈ insI x l ↔ z = x ∨ z ∈ l
  | [] => by simp [insI]
  | y :: ys => by
    unfold insI
    split
    · simp
    · rw [List.mem_cons, insI_mem, List.mem_cons]
      constructor
      · rintro (h | h | h) <;> simp [h]
      · rintro (h | h | h) <;> simp [h]
theorem sortI_mem {z : Int} : ∀ {l : List Int}, z ∈ sortI l ↔ z ∈ l
  | [] => by simp [sortI]
  | x :: xs => by rw [sortI, insI_mem, sortI_mem, List.mem_cons]
theorem insI_lt {x : Int} : ∀ {l : List Int}, x ∉ l → l.Pairwise (· < ·) → (insI x l).Pairwise (· < ·)
  | [], _, _ => by simp [insI]
  | y :: ys, hx, h => by
    unfold insI
    have hxy : x ≠ y := fun e => hx (by rw [e]; exact List.mem_cons_self ..)
    obtain ⟨h1, h2⟩ := List.pairwise_cons.mp h
    split
    · rename_i hle
      refine List.pairwise_cons.mpr ⟨fun z hz => ?_, h⟩
      rcases List.mem_cons.mp hz with rfl | hz
      · omega
      · have := h1 z hz; omega
    · rename_i hle
      refine List.pairwise_cons.mpr ⟨fun z hz => ?_, insI_lt (fun e => hx (List.mem_cons_of_mem _ e)) h2⟩
      rcases insI_mem.mp hz with rfl | hz
      · omega
      · exact h1 z hz
theorem sortI_lt : ∀ {l : List Int}, l.Nodup → (sortI l).Pairwise (· < ·)
  | [], _ => List.Pairwise.nil
  | x :: xs, h => by
    obtain ⟨h1, h2⟩ := List.nodup_cons.mp h
    exact insI_lt (fun e => h1 (sortI_mem.mp e)) (sortI_lt h2)
theorem lt_ext : ∀ {a b : List Int}, a.Pairwise (· < ·) → b.Pairwise (· < ·) → (∀ x, x ∈ a ↔ x ∈ b) → a = b
  | [], [], _, _, _ => rfl
  | [], y :: b, _, _, h => absurd ((h y).mpr (List.mem_cons_self ..)) (by simp)
  | x :: a, [], _, _, h => absurd ((h x).mp (List.mem_cons_self ..)) (by simp)
  | x :: a, y :: b, ha, hb, h => by
    obtain ⟨a1, a2⟩ := List.pairwise_cons.mp ha
    obtain ⟨b1, b2⟩ := List.pairwise_cons.mp hb
    have hxy : x = y := by
      have h1 := (h x).mp (List.mem_cons_self ..)
      have h2 := (h y).mpr (List.mem_cons_self ..)
      rcases List.mem_cons.mp h1 with e | h1
      · exact e
      · rcases List.mem_cons.mp h2 with e | h2
        · exact e.symm
        · have := b1 x h1; have := a1 y h2; omega
    subst hxy
    rw [lt_ext a2 b2 fun z => ?_]
    constructor
    · intro hz
      rcases List.mem_cons.mp ((h z).mp (List.mem_cons_of_mem _ hz)) with e | hz'
      · have := a1 z hz; omega
      · exact hz'
    · intro hz
      rcases List.mem_cons.mp ((h z).mpr (List.mem_cons_of_mem _ hz)) with e | hz'
      · have := b1 z hz; omega
      · exact hz'
theorem seg_lt (l r : Int) : (seg l r).Pairwise (· < ·) := by
  generalize hn : (r - l).toNat = n
  induction n generalizing l with
  | zero => rw [seg_nil (by omega)]; exact List.Pairwise.nil
  | succ n ih =>
    rw [seg_step (by omega)]
    refine List.pairwise_cons.mpr ⟨fun x hx => ?_, ih (l + 1) (by omega)⟩
    have := mem_seg.mp hx
    omega
/-! ### the dict's keys -/
def addKey (ks : List Int) (x : Int) : List Int := if x ∈ ks then ks else ks ++ [x]
theorem kv_any (x : Int) : ∀ es : List (Dt × Dt), ∀ ks : List Int, es.map (·.1) = ks.map .int → (es.any fun p => eqK p.1 (.int x)) = decide (x ∈ ks)
  | [], [], _ => rfl
  | [], _ :: _, h => by cases h
  | _ :: _, [], h => by cases h
  | (kd, d) :: es, k :: ks, h => by
    simp only [List.map_cons, List.cons.injEq] at h
    obtain ⟨h1, h2⟩ := h
    subst h1
    rw [List.any_cons, kv_any x es ks h2]
    show (decide (k = x) || decide (x ∈ ks)) = _
    by_cases e : k = x
    · subst e; simp
    · have e' : x ≠ k := fun z => e z.symm
      simp [e, e']
theorem kv_keys (x : Int) (d : Dt) (es : List (Dt × Dt)) (ks : List Int) (h : es.map (·.1) = ks.map .int) : (kvPut es (.int x) d).map (·.1) = (addKey ks x).map .int := by
  unfold kvPut addKey
  rw [kv_any x es ks h]
  by_cases hx : x ∈ ks
  · rw [if_pos (decide_eq_true hx), if_pos hx, ← h, List.map_map]
    refine List.map_congr_left fun p _ => ?_
    show (if eqK p.1 (.int x) = true then (p.1, d) else p).1 = p.1
    split <;> rfl
  · rw [if_neg (by simpa using hx), if_neg hx, List.map_append, h, List.map_append]
    rfl
theorem kvOf_keys : ∀ (xs : List Int) (es : List (Dt × Dt)) (ks : List Int), es.map (·.1) = ks.map .int → (((xs.map fun x => PyData.tuple [.int x, .bool true]).foldl kvAdd es).map (·.1)) = (xs.foldl addKey ks).map .int
  | [], es, ks, h => h
  | x :: xs, es, ks, h => by
    rw [List.map_cons, List.foldl_cons, List.foldl_cons]
    exact kvOf_keys xs _ _ (kv_keys x (.bool true) es ks h)
theorem addKey_mem {ks : List Int} {x z : Int} : z ∈ addKey ks x ↔ z ∈ ks ∨ z = x := by
  unfold addKey
  split
  · rename_i h
    constructor
    · exact .inl
    · rintro (h' | rfl)
      · exact h'
      · exact h
  · simp
theorem addKey_nodup {ks : List Int} {x : Int} (h : ks.Nodup) : (addKey ks x).Nodup := by
  unfold addKey
  split
  · exact h
  · rename_i hx
    rw [List.nodup_append]
    exact ⟨h, by simp, fun a ha b hb => by rw [List.mem_singleton.mp hb]; exact fun e => hx (by rw [← e]; exact ha)⟩
theorem keys_mem {z : Int} : ∀ {xs ks : List Int}, z ∈ xs.foldl addKey ks ↔ z ∈ ks ∨ z ∈ xs
  | [], ks => by simp
  | x :: xs, ks => by
    rw [List.foldl_cons, keys_mem, addKey_mem, List.mem_cons]
    constructor
    · rintro ((h | h) | h) <;> simp [h]
    · rintro (h | h | h) <;> simp [h]
theorem keys_nodup : ∀ {xs ks : List Int}, ks.Nodup → (xs.foldl addKey ks).Nodup
  | [], ks, h => h
  | x :: xs, ks, h => by rw [List.foldl_cons]; exact keys_nodup (addKey_nodup h)
/-- where the sign, or whether it is nought, changes -/
def Zt (p : List Int) (x : Int) : Bool := Pt p x || Pt (p.map fun a => -1 * a) x
def Z (p : List Int) (l r : Int) : List Int := (seg l r).filter (Zt p)
theorem sorted_Z (p : List Int) (l r : Int) : sortI ((T p l r ++ T (p.map fun a => -1 * a) l r).foldl addKey []) = Z p l r := by
  refine lt_ext (sortI_lt (keys_nodup List.nodup_nil)) ((seg_lt l r).sublist List.filter_sublist) fun x => ?_
  rw [sortI_mem, keys_mem, List.mem_append]
  unfold T Z Zt
  simp only [List.mem_filter, List.not_mem_nil, false_or, Bool.or_eq_true]
  constructor
  · rintro (⟨a, b⟩ | ⟨a, b⟩)
    · exact ⟨a, .inl b⟩
    · exact ⟨a, .inr b⟩
  · rintro ⟨a, b | b⟩
    · exact .inl ⟨a, b⟩
    · exact .inr ⟨a, b⟩
theorem zero_B (p : List Int) (x : Int) : (val x p = 0) ↔ (B p x = false ∧ B (p.map fun a => -1 * a) x = false) := by
  unfold B
  rw [val_times]
  constructor
  · intro h
    exact ⟨decide_eq_false (by omega), decide_eq_false (by omega)⟩
  · rintro ⟨a, b⟩
    have := of_decide_eq_false a
    have := of_decide_eq_false b
    omega
theorem zero_const {p : List Int} {a x : Int} (h : ∀ y, a < y → y ≤ x → Zt p y = false) (hx : a ≤ x) : (val x p = 0) ↔ val a p = 0 := by
  have key : ∀ n : Nat, ∀ x, x = a + n → (∀ y, a < y → y ≤ x → Zt p y = false) → (val x p = 0 ↔ val a p = 0) := by
    intro n
    induction n with
    | zero => intro x hx _; rw [hx]; simp
    | succ n ih =>
      intro x hx h
      rw [← ih (x - 1) (by omega) fun y h1 h2 => h y h1 (by omega), zero_B, zero_B]
      have h1 := h x (by omega) (Int.le_refl _)
      unfold Zt Pt at h1
      simp only [Bool.or_eq_false_iff, bne_eq_false_iff_eq] at h1
      rw [h1.1, h1.2]
  exact key (x - a).toNat x (by omega) h
def zr (p : List Int) (l r : Int) : List Int := (seg l r).filter fun x => decide (val x p = 0)
theorem zr_const {p : List Int} {a b : Int} (hab : a < b) (h : ∀ y, a < y → y < b → Zt p y = false) : zr p (a - 1) (b - 1) = if val a p = 0 then seg (a - 1) (b - 1) else [] := by
  unfold zr
  have hc : ∀ x ∈ seg (a - 1) (b - 1), (val x p = 0 ↔ val a p = 0) := fun x hx => by
    obtain ⟨h1, h2⟩ := mem_seg.mp hx
    exact zero_const (fun y h3 h4 => h y h3 (by omega)) (by omega)
  split
  · rename_i hv
    rw [List.filter_eq_self]
    intro x hx
    exact decide_eq_true ((hc x hx).mpr hv)
  · rename_i hv
    rw [List.filter_eq_nil_iff]
    intro x hx z
    exact hv ((hc x hx).mp (of_decide_eq_true z))
theorem zr_app {p : List Int} {l m r : Int} (h1 : l ≤ m) (h2 : m ≤ r) : zr p l r = zr p l m ++ zr p m r := by
  unfold zr
  rw [seg_app h1 h2, List.filter_append]
end K53

end
section
set_option Elab.async false
set_option linter.all false
set_option maxRecDepth 100000
set_option maxHeartbeats 4000000
/-! k53, whole_roots on data. -/
namespace K53
open PySem Mini
theorem upTo_seg (a b : Int) : Mini.upTo a 1 (b - a).toNat = (seg (a - 1) (b - 1)).map .int := by
  unfold Mini.upTo seg
  rw [List.map_map, show (b - 1 - (a - 1)).toNat = (b - a).toNat by omega]
  refine List.map_congr_left fun i _ => ?_
  show PyData.int (a + (i : Nat) * 1) = PyData.int (a - 1 + 1 + (i : Nat))
  congr 1
  omega
theorem ev_ext_ {c : CallS} {ρ ρ1 : En} {i : Nat} {e : E} {xs ys zs : List Dt} (h1 : rd ρ i = some (.own, .list zs)) (h2 : ev c e ρ = some ((.own, .list ys), ρ1)) (h3 : rd ρ1 i = some (.own, .list xs)) (h4 : xs.length + ys.length ≤ lim) : ev c (.ext i e) ρ = some ((.sh, .none), ρ1.set i (some (.own, .list (xs ++ ys)))) := by
  simp only [ev, h1, h2, Option.bind_some, h3, h4, if_true]
theorem ev_lrg_ {c : CallS} {ρ ρ1 ρ2 : En} {a b : E} {i j : Int} (h1 : keepS (ev c a ρ) = some (.int i, ρ1)) (h2 : keepS (ev c b ρ1) = some (.int j, ρ2)) (h3 : (bnd62 i && bnd62 j && decide ((j - i).toNat ≤ lim)) = true) : ev c (.lrg a b) ρ = some ((.own, .list (Mini.upTo i 1 (j - i).toNat)), ρ2) := by
  simp only [ev, h1, Option.bind_some, h2]
  rw [if_pos h3]
abbrev envW (p : List Int) (m : Int) (s q : Option Sl) (acc : List Int) (u v x : Option Sl) : En := [some (T_ p), some (I_ m), some (I_ (-m - 1)), some (I_ (m + 1)), some (L_ acc), s, q, u, v, x]
theorem bnd_small {i : Int} (h1 : -2000 ≤ i) (h2 : i ≤ 2000) : bnd62 i = true := by
  unfold bnd62
  rw [decide_eq_true (by omega), decide_eq_true (by omega)]
  rfl
theorem wr_step (k : Nat) (p : List Int) (m : Int) (s q x : Option Sl) (acc : List Int) (a b : Int) (ha : -1000 ≤ a) (hb : b ≤ 1000) (hab : a < b) (hl : acc.length ≤ 5000) :
    exs (cl (k + 1)) 100000 p_whole_roots_2 (envW p m s q acc (some (I_ a)) (some (I_ b)) x) = some (.nx (envW p m s q (acc ++ if val a p = 0 then seg (a - 1) (b - 1) else []) (some (I_ a)) (some (I_ b)) x)) := by
  unfold p_whole_roots_2
  have sa : sm a := by unfold sm; omega
  have e1 : ev (cl (k + 1)) (.call "poly_at" (.cons (.sh 0) (.cons (.sh 7) .nil))) (envW p m s q acc (some (I_ a)) (some (I_ b)) x) = some (I_ (val a p), envW p m s q acc (some (I_ a)) (some (I_ b)) x) := by
    rw [← pAt_val]
    exact ev_call_ (D := [.inl (tI_ p), .inl (.int a)]) (L := []) rfl rfl (poly_at k p a sa) rfl rfl
  have e2 := tv_ (ev_cmp_ (o := .eq) (b := .int 0) (q := (I_ 0, envW p m s q acc (some (I_ a)) (some (I_ b)) x)) e1 rfl rfl rfl rfl) rfl (t := decide (val a p = 0)) rfl
  by_cases hv : val a p = 0
  · rw [decide_eq_true hv] at e2
    have e3 : ev (cl (k + 1)) (.lrg (.sh 7) (.sh 8)) (envW p m s q acc (some (I_ a)) (some (I_ b)) x) = some (L_ (seg (a - 1) (b - 1)), envW p m s q acc (some (I_ a)) (some (I_ b)) x) := by
      rw [ev_lrg_ (i := a) (j := b) rfl rfl (by rw [bnd_small (by omega) (by omega), bnd_small (by omega) (by omega), decide_eq_true (Nat.le_trans (show (b - a).toNat ≤ 2000 by omega) (by decide))]; rfl), upTo_seg]
    have e4 := exs_exp (fuel := 100000) (rest := .nil) (ev_ext_ (i := 4) (zs := acc.map .int) (xs := acc.map .int) rfl e3 rfl (by
      rw [List.length_map, List.length_map, seg_len]
      exact Nat.le_trans (show _ ≤ 10000 by omega) (by decide)))
    rw [exs_ifT e2 e4, if_pos hv]
    show some (Out.nx [_, _, _, _, some (.own, .list (acc.map PyData.int ++ (seg (a - 1) (b - 1)).map PyData.int)), _, _, _, _, _]) = _
    rw [← List.map_append]
  · rw [decide_eq_false hv] at e2
    rw [exs_ifF e2 rfl, if_neg hv, List.append_nil]
    rfl
theorem Z_step {p : List Int} {l r : Int} (h : l < r) : Z p l r = if Zt p (l + 1) = true then (l + 1) :: Z p (l + 1) r else Z p (l + 1) r := by
  unfold Z
  rw [seg_step h, List.filter_cons]
theorem Z_nil {p : List Int} {l r : Int} (h : r ≤ l) : Z p l r = [] := by
  unfold Z
  rw [seg_nil h]
  rfl
theorem zr_len (p : List Int) (l r : Int) : (zr p l r).length ≤ (r - l).toNat := by
  unfold zr
  rw [← seg_len l r]
  exact List.length_filter_le ..
theorem wr_loop (k : Nat) (p : List Int) (m : Int) (s q x : Option Sl) (hi : Int) (hhi : hi ≤ 999) : ∀ (n : Nat) (a l : Int) (acc : List Int) (u v : Option Sl), (hi - l).toNat = n → -1000 ≤ a → a ≤ l → l ≤ hi → (∀ y, a < y → y ≤ l → Zt p y = false) → acc.length + (hi - a + 1).toNat ≤ 5000 →
    ∃ u' v', Runs (turnF (cl (k + 1)) 100000 (.tp (.cons (.nm 7) (.cons (.nm 8) .nil))) p_whole_roots_2) (pairs a (Z p l hi ++ [hi + 1])) (envW p m s q acc u v x) (envW p m s q (acc ++ zr p (a - 1) hi) u' v' x) := by
  intro n
  induction n with
  | zero =>
    intro a l acc u v hn ha hal hlh hno hacc
    have : l = hi := by omega
    subst this
    rw [Z_nil (Int.le_refl _)]
    have st := wr_step k p m s q x acc a (l + 1) ha (by omega) (by omega) (by omega)
    rw [← zr_const (p := p) (a := a) (b := l + 1) (by omega) fun y h1 h2 => hno y h1 (by omega), show l + 1 - 1 = l by omega] at st
    exact ⟨_, _, .cons (turn_ok rfl st) .nil⟩
  | succ n ih =>
    intro a l acc u v hn ha hal hlh hno hacc
    have hlt : l < hi := by omega
    rw [Z_step hlt]
    by_cases hp : Zt p (l + 1) = true
    · rw [if_pos hp]
      have st := wr_step k p m s q x acc a (l + 1) ha (by omega) (by omega) (by omega)
      rw [← zr_const (p := p) (a := a) (b := l + 1) (by omega) fun y h1 h2 => hno y h1 (by omega), show l + 1 - 1 = l by omega] at st
      have zl := zr_len p (a - 1) l
      obtain ⟨u', v', r⟩ := ih (l + 1) (l + 1) (acc ++ zr p (a - 1) l) (some (I_ a)) (some (I_ (l + 1))) (by omega) (by omega) (Int.le_refl _) (by omega) (fun y h1 h2 => by omega) (by simp; omega)
      rw [show l + 1 - 1 = l by omega] at r
      refine ⟨u', v', .cons (turn_ok rfl st) ?_⟩
      rw [zr_app (l := a - 1) (m := l) (r := hi) (by omega) (by omega), ← List.append_assoc]
      exact r
    · rw [if_neg hp]
      exact ih a (l + 1) acc u v (by omega) ha (by omega) (by omega) (fun y h1 h2 => by
        by_cases hy : y = l + 1
        · subst hy; simpa using hp
        · exact hno y h1 (by omega)) hacc
theorem ev_dcomp_ {c : CallS} {ρ ρ1 : En} {ek ed : E} {p : Pat} {it : It} {own : List Nat} {ds : List Dt} (g : Dt → Dt) (h : Dt → Dt) (h1 : evI c it ρ = some (ds, ρ1)) (h2 : ds.length ≤ lim) (h3 : ownFree ρ1 own = true)
    (h4 : ∀ d ∈ ds, ∃ ρ2 ρ3 ρ4, bind p (.sh, d) (wipe ρ1 own) = some ρ2 ∧ keepS (ev c ek ρ2) = some (g d, ρ3) ∧ isKey (g d) = true ∧ keepS (ev c ed ρ3) = some (h d, ρ4) ∧ wipe ρ4 own = wipe ρ1 own) :
    ev c (.dcomp ek ed p it own) ρ = some ((.own, .dict (kvOf (ds.map fun d => .tuple [g d, h d]))), back ρ1 (wipe ρ1 own) own) := by
  have cc := compL_map (f := fun ρ' x => (bind p (.sh, x) ρ').bind fun ρ'' => (keepS (ev c ek ρ'')).bind fun q => if isKey q.1 then (keepS (ev c ed q.2)).map fun t => (some (PyData.tuple [q.1, t.1]), wipe t.2 own) else none) (ρ := wipe ρ1 own) (fun d => .tuple [g d, h d]) ds fun d hd => by
    obtain ⟨ρ2, ρ3, ρ4, k1, k2, k3, k4, k5⟩ := h4 d hd
    simp only [k1, Option.bind_some, k2, k3, if_true, k4, Option.map_some, k5]
  simp only [ev, h1, Option.bind_some]
  rw [if_pos (by rw [decide_eq_true h2]; exact h3), cc]
  rfl
end K53

end
section
set_option Elab.async false
set_option linter.all false
set_option maxRecDepth 100000
set_option maxHeartbeats 4000000
/-! k53, whole_roots. -/
namespace K53
open PySem Mini
def inG (m : Int) : Dt → Option Dt
  | .int x => if -m ≤ x ∧ x ≤ m then some (.int x) else none
  | _ => none
theorem inG_map (m : Int) : ∀ W : List Int, (W.map PyData.int).filterMap (inG m) = (W.filter fun x => decide (-m ≤ x ∧ x ≤ m)).map PyData.int
  | [] => rfl
  | x :: W => by
    rw [List.map_cons, List.filterMap_cons, List.filter_cons, inG_map m W]
    by_cases h : -m ≤ x ∧ x ≤ m
    · rw [show inG m (.int x) = some (.int x) from if_pos h, if_pos (decide_eq_true h), List.map_cons]
    · rw [show inG m (.int x) = none from if_neg h, if_neg (by simpa using h)]
abbrev env0 (p : List Int) (m : Int) (s q : Option Sl) : En := envW p m s q [] none none none
theorem in_test (c : CallS) (p : List Int) (m x : Int) (F s q u v : Option Sl) : tv c p_whole_roots_4 [some (T_ p), some (I_ m), some (I_ (-m - 1)), some (I_ (m + 1)), F, s, q, u, v, some (I_ x)] = some (decide (-m ≤ x ∧ x ≤ m), [some (T_ p), some (I_ m), some (I_ (-m - 1)), some (I_ (m + 1)), F, s, q, u, v, some (I_ x)]) := by
  unfold p_whole_roots_4
  generalize hρ : ([some (T_ p), some (I_ m), some (I_ (-m - 1)), some (I_ (m + 1)), F, s, q, u, v, some (I_ x)] : En) = ρ
  have e1 : ev c (.neg (.v 1)) ρ = some (I_ (-m), ρ) := by subst hρ; rfl
  have e2 : ev c (.sh 9) ρ = some (I_ x, ρ) := by subst hρ; rfl
  have e3 : ev c (.v 1) ρ = some (I_ m, ρ) := by subst hρ; rfl
  have k1 : cmpD .le (.int (-m)) (.int x) = some (decide (-m ≤ x)) := rfl
  have k2 : cmpD .le (.int x) (.int m) = some (decide (x ≤ m)) := rfl
  have e4 : ev c (.chain .le .le (.neg (.v 1)) (.sh 9) (.v 1)) ρ = some ((.sh, .bool (decide (-m ≤ x ∧ x ≤ m))), ρ) := by
    simp only [ev] at e1 e2 e3 ⊢
    simp only [e1, e2, e3, Option.bind_some, keep?, read?, if_true, k1, k2, Option.map_some]
    by_cases h : -m ≤ x
    · simp [h]
    · simp [h]
  exact tv_ e4 rfl rfl
theorem zr_inner {p : List Int} {m : Int} (hm : 0 ≤ m) : (zr p (-m - 1 - 1) (m + 1)).filter (fun x => decide (-m ≤ x ∧ x ≤ m)) = zr p (-m - 1) m := by
  rw [zr_app (l := -m - 1 - 1) (m := -m - 1) (r := m + 1) (by omega) (by omega), zr_app (l := -m - 1) (m := m) (r := m + 1) (by omega) (by omega), List.filter_append, List.filter_append]
  have n1 : (zr p (-m - 1 - 1) (-m - 1)).filter (fun x => decide (-m ≤ x ∧ x ≤ m)) = [] := List.filter_eq_nil_iff.mpr fun x hx => by
    have := mem_seg.mp (List.mem_filter.mp (show x ∈ (seg _ _).filter _ from hx)).1
    simp
    omega
  have n2 : (zr p m (m + 1)).filter (fun x => decide (-m ≤ x ∧ x ≤ m)) = [] := List.filter_eq_nil_iff.mpr fun x hx => by
    have := mem_seg.mp (List.mem_filter.mp (show x ∈ (seg _ _).filter _ from hx)).1
    simp
    omega
  have n3 : (zr p (-m - 1) m).filter (fun x => decide (-m ≤ x ∧ x ≤ m)) = zr p (-m - 1) m := List.filter_eq_self.mpr fun x hx => by
    have := mem_seg.mp (List.mem_filter.mp (show x ∈ (seg _ _).filter _ from hx)).1
    simp
    omega
  rw [n1, n2, n3]
  simp
theorem whole_roots (k : Nat) (p : List Int) (m : Int) (hp : p.length ≤ 90) (h0 : 0 ≤ m) (h1 : m ≤ 900) : cl (k + 5) "whole_roots" [T_ p, I_ m] = some (T_ (zr p (-m - 1) m), [tI_ p, .int m]) := by
  generalize hd : (T p (-m - 1) (m + 1) ++ T (p.map fun a => -1 * a) (-m - 1) (m + 1)) = ks
  have kl : ks.length ≤ 8000 := by
    rw [← hd, List.length_append]
    have := T_len p (-m - 1) (m + 1)
    have := T_len (p.map fun a => -1 * a) (-m - 1) (m + 1)
    omega
  generalize hD : kvOf (ks.map fun x => PyData.tuple [.int x, .bool true]) = D
  have hkeys : D.map (·.1) = (ks.foldl addKey []).map .int := by
    rw [← hD]
    exact kvOf_keys ks [] [] rfl
  have hsrt : sortI (ks.foldl addKey []) = Z p (-m - 1) (m + 1) := by rw [← hd]; exact sorted_Z p _ _
  obtain ⟨u', v', r⟩ := wr_loop (k + 3) p m (some (.own, .dict D)) (some (.sh, lI_ ((-m - 1) :: (Z p (-m - 1) (m + 1) ++ [m + 1 + 1])))) none (m + 1) (by omega) (m + 1 - (-m - 1)).toNat (-m - 1) (-m - 1) [] none none rfl (by omega) (Int.le_refl _) (by omega) (fun y a b => by omega) (by simp; omega)
  rw [List.nil_append] at r
  generalize hW : zr p (-m - 1 - 1) (m + 1) = W at r
  have wl : W.length ≤ 5000 := by
    rw [← hW]
    have := zr_len p (-m - 1 - 1) (m + 1)
    omega
  show runDef (cl (k + 4)) 100000 2 10 d_whole_roots.body [T_ p, I_ m] = _
  refine run_rt (ρ' := [some (T_ p), some (I_ m), some (I_ (-m - 1)), some (I_ (m + 1)), some (.sh, lI_ W), some (.own, .dict D), some (.sh, lI_ ((-m - 1) :: (Z p (-m - 1) (m + 1) ++ [m + 1 + 1]))), u', v', none]) rfl ?_ rfl rfl
  show exs (cl (k + 4)) 100000 d_whole_roots.body [some (T_ p), some (I_ m), none, none, none, none, none, none, none, none] = _
  unfold d_whole_roots
  rw [exs_par (ρ' := env0 p m none none) rfl rfl]
  -- the two runs of sign_turns
  have c1 : ev (cl (k + 4)) (.call "sign_turns" (.cons (.sh 0) (.cons (.sh 2) (.cons (.sh 3) .nil)))) (env0 p m none none) = some (T_ (T p (-m - 1) (m + 1)), env0 p m none none) :=
    ev_call_ (D := [.inl (tI_ p), .inl (.int (-m - 1)), .inl (.int (m + 1))]) (L := []) rfl rfl (sign_turns k p (-m - 1) (m + 1) hp (by omega) (by omega) (by omega)) rfl rfl
  have c2 : ev (cl (k + 4)) (.call "poly_times" (.cons (.sh 0) (.cons (.neg (.int 1)) .nil))) (env0 p m none none) = some (T_ (p.map fun a => -1 * a), env0 p m none none) :=
    ev_call_ (D := [.inl (tI_ p), .inl (.int (-1))]) (L := []) rfl rfl (poly_times (k + 3) p (-1) (show (-1 : Int).natAbs < 2 ^ 64 by decide) (by omega)) rfl rfl
  have c3 : ev (cl (k + 4)) (.call "sign_turns" (.cons (.call "poly_times" (.cons (.sh 0) (.cons (.neg (.int 1)) .nil))) (.cons (.sh 2) (.cons (.sh 3) .nil)))) (env0 p m none none) = some (T_ (T (p.map fun a => -1 * a) (-m - 1) (m + 1)), env0 p m none none) := by
    refine ev_call_ (D := [.inl (tI_ (p.map fun a => -1 * a)), .inl (.int (-m - 1)), .inl (.int (m + 1))]) (L := []) (ρ1 := env0 p m none none) ?_ rfl (sign_turns k (p.map fun a => -1 * a) (-m - 1) (m + 1) (by simpa using hp) (by omega) (by omega) (by omega)) rfl rfl
    show ((keepS (ev (cl (k + 4)) (.call "poly_times" _) _)).bind fun x => _) = _
    rw [keep_ c2 rfl]
    rfl
  have c4 : evI (cl (k + 4)) (.e (.tup (.star (.call "sign_turns" (.cons (.sh 0) (.cons (.sh 2) (.cons (.sh 3) .nil)))) (.star (.call "sign_turns" (.cons (.call "poly_times" (.cons (.sh 0) (.cons (.neg (.int 1)) .nil))) (.cons (.sh 2) (.cons (.sh 3) .nil)))) .nil)))) (env0 p m none none) = some (ks.map .int, env0 p m none none) := by
    have e1 := ev_tup_ (evL_star_ (r := .star _ .nil) c1 rfl rfl (evL_star_ (r := .nil) c3 rfl rfl rfl)) (by
      simp only [List.length_append, List.length_map, List.length_nil]
      rw [← hd, List.length_append] at kl
      exact Nat.le_trans (show _ ≤ 8000 by omega) (by decide))
    simp only [evI]
    rw [keep_ e1 rfl, ← hd]
    show some ((T p (-m - 1) (m + 1)).map PyData.int ++ ((T (p.map fun a => -1 * a) (-m - 1) (m + 1)).map PyData.int ++ []), _) = _
    rw [List.append_nil, ← List.map_append]
  have c5 := ev_dcomp_ (c := cl (k + 4)) (ek := p_whole_roots_0) (ed := p_whole_roots_1) (p := .nm 9) (own := [9]) (fun d => d) (fun _ => .bool true) c4 (by rw [List.length_map]; exact Nat.le_trans kl (by decide)) rfl fun d hd' => by
    obtain ⟨x, _, rfl⟩ := List.mem_map.mp hd'
    exact ⟨_, _, _, rfl, rfl, rfl, rfl, rfl⟩
  rw [List.map_map, show ((fun d => PyData.tuple [d, PyData.bool true]) ∘ PyData.int) = fun x : Int => PyData.tuple [.int x, .bool true] from rfl, hD] at c5
  rw [exs_asg (ρ' := env0 p m (some (.own, .dict D)) none) c5 rfl]
  have c6 : ev (cl (k + 4)) (.b1 .sorted (.v 5)) (env0 p m (some (.own, .dict D)) none) = some (L_ (Z p (-m - 1) (m + 1)), env0 p m (some (.own, .dict D)) none) := by
    refine ev_b1_ (r := ((.bo 5, .dict D), _)) rfl rfl ?_
    show (allI (D.map (·.1))).map (fun ns => (Fl.own, PyData.list ((sortI ns).map PyData.int))) = _
    rw [hkeys, allI_ints, Option.map_some, hsrt]
  have zl : (Z p (-m - 1) (m + 1)).length ≤ 4000 := by
    unfold Z
    have := List.length_filter_le (Zt p) (seg (-m - 1) (m + 1))
    rw [seg_len] at this
    omega
  have c7 : ev (cl (k + 4)) (.lst (.cons (.sh 2) (.star (.b1 .sorted (.v 5)) (.cons (.bin .add (.v 3) (.int 1)) .nil)))) (env0 p m (some (.own, .dict D)) none) = some (L_ ((-m - 1) :: (Z p (-m - 1) (m + 1) ++ [m + 1 + 1])), env0 p m (some (.own, .dict D)) none) := by
    refine (ev_lst_ (ds := .int (-m - 1) :: ((Z p (-m - 1) (m + 1)).map .int ++ [.int (m + 1 + 1)])) (evL_cons_ rfl (evL_star_ c6 rfl rfl rfl)) (by simp; exact Nat.le_trans (show _ ≤ 5000 by omega) (by decide))).trans ?_
    rw [show PyData.int (-m - 1) :: ((Z p (-m - 1) (m + 1)).map PyData.int ++ [PyData.int (m + 1 + 1)]) = ((-m - 1) :: (Z p (-m - 1) (m + 1) ++ [m + 1 + 1])).map PyData.int by rw [List.map_cons, List.map_append]; rfl]
  rw [exs_asg (ρ' := env0 p m (some (.own, .dict D)) (some (L_ ((-m - 1) :: (Z p (-m - 1) (m + 1) ++ [m + 1 + 1]))))) c7 rfl]
  have c8 : evI (cl (k + 4)) (.zip (.sh 6) (.slL (.v 6) (.int 1))) (env0 p m (some (.own, .dict D)) (some (L_ ((-m - 1) :: (Z p (-m - 1) (m + 1) ++ [m + 1 + 1]))))) = some (pairs (-m - 1) (Z p (-m - 1) (m + 1) ++ [m + 1 + 1]), env0 p m (some (.own, .dict D)) (some (.sh, lI_ ((-m - 1) :: (Z p (-m - 1) (m + 1) ++ [m + 1 + 1]))))) := by
    rw [← zip_pairs]
    show some (zipD (((-m - 1) :: (Z p (-m - 1) (m + 1) ++ [m + 1 + 1])).map PyData.int) (cutD (((-m - 1) :: (Z p (-m - 1) (m + 1) ++ [m + 1 + 1])).map PyData.int) (some ((1 : Nat) : Int)) none), _) = _
    rw [cut_drop]
    rfl
  rw [exs_for c8 r.run]
  have c9 := ev_compIf_ (cl := cl (k + 4)) (ρ := envW p m (some (.own, .dict D)) (some (.sh, lI_ ((-m - 1) :: (Z p (-m - 1) (m + 1) ++ [m + 1 + 1])))) W u' v' none)
    (ρ1 := [some (T_ p), some (I_ m), some (I_ (-m - 1)), some (I_ (m + 1)), some (.sh, lI_ W), some (.own, .dict D), some (.sh, lI_ ((-m - 1) :: (Z p (-m - 1) (m + 1) ++ [m + 1 + 1]))), u', v', none])
    (elt := p_whole_roots_3) (c := p_whole_roots_4) (p := .nm 9) (it := .e (.sh 4)) (own := [9]) (ds := W.map .int) (inG m) rfl (by rw [List.length_map]; exact Nat.le_trans wl (by decide)) rfl fun d hd' => by
    obtain ⟨x, _, rfl⟩ := List.mem_map.mp hd'
    refine ⟨_, _, _, rfl, in_test (cl (k + 4)) p m x _ _ _ _ _, ?_⟩
    by_cases h : -m ≤ x ∧ x ≤ m
    · rw [if_pos (decide_eq_true h)]
      exact ⟨.int x, _, if_pos h, rfl, rfl⟩
    · rw [if_neg (by simpa using h)]
      exact ⟨if_neg h, rfl⟩
  rw [exs_ret (ev_b1_ c9 rfl rfl) rfl]
  rw [inG_map, ← hW, zr_inner h0]
  rfl
end K53

end
section
set_option Elab.async false
set_option linter.all false
set_option maxRecDepth 100000
set_option maxHeartbeats 4000000
/-! k53, the draws. -/
namespace K53
open PySem Mini
abbrev R_ (ns : List Int) (l m t : Int) : Sl := (.src, srcD ns l m t)
theorem pull_D (ns : List Int) (l m t : Int) : pullD (srcD ns l m t) = some (srcD (pullI ns.reverse l).1.reverse (pullI ns.reverse l).2 m t) := by
  show ((allI (ns.map .int)).map fun ns => srcD (pullI ns.reverse l).1.reverse (pullI ns.reverse l).2 m t) = _
  rw [allI_ints]
  rfl
theorem exs_pull {c : CallS} {fuel : Nat} {i j : Nat} {r : Ss} {ρ : En} {d d' : Dt} (h1 : rd ρ i = some (.src, d)) (h2 : rd ρ j = none) (h3 : (decide (i ≠ j) && decide (j < ρ.length)) = true) (h4 : pullD d = some d') : exs c fuel (.pull i j r) ρ = exs c fuel r (ρ.set i (some (.src, d'))) := by
  simp only [exs, h1, h2, h3, if_true, h4, Option.bind_some]
theorem exs_setf {c : CallS} {fuel : Nat} {rest : Ss} {i : Nat} {k : Str} {e : E} {ρ ρ1 : En} {v : Int} {d d' : Dt} (h1 : keepS (ev c e ρ) = some (.int v, ρ1)) (h2 : rd ρ1 i = some (.src, d)) (h3 : putF k v d = some d') : exs c fuel (.cons (.setf i k e) rest) ρ = exs c fuel rest (ρ1.set i (some (.src, d'))) := by
  simp only [exs, ex, h1, Option.bind_some, h2, h3, Option.map_some]
theorem bin_mod {c : CallS} {a b : E} {ρ ρ1 ρ2 : En} {i j : Int} (h1 : ev c a ρ = some ((.sh, .int i), ρ1)) (h2 : ev c b ρ1 = some ((.sh, .int j), ρ2)) (h : j ≠ 0) : ev c (.bin .mod a b) ρ = some ((.sh, .int (i.fmod j)), ρ2) :=
  ev_bin_ h1 rfl h2 rfl (if_pos h)
theorem bin_fdiv {c : CallS} {a b : E} {ρ ρ1 ρ2 : En} {i j : Int} (h1 : ev c a ρ = some ((.sh, .int i), ρ1)) (h2 : ev c b ρ1 = some ((.sh, .int j), ρ2)) (h : divOk j = true) : ev c (.bin .fdiv a b) ρ = some ((.sh, .int (i.fdiv j)), ρ2) :=
  ev_bin_ h1 rfl h2 rfl (if_pos h)
theorem b1_int {c : CallS} {a : E} {ρ ρ1 : En} {i : Int} (h1 : ev c a ρ = some ((.sh, .int i), ρ1)) : ev c (.b1 .int a) ρ = some ((.sh, .int i), ρ1) := ev_b1_ h1 rfl rfl
theorem fmod_rng (i : Int) {m : Int} (h : 0 < m) : 0 ≤ i.fmod m ∧ i.fmod m < m := ⟨Int.fmod_nonneg_of_pos i h, Int.fmod_lt_of_pos i h⟩
/-- a draw: a value below most, the record behind it -/
theorem pick (k : Nat) (ns : List Int) (l x t most : Int) (h1 : 1 ≤ most) (h2 : most ≤ 1000) : ∃ v ns' l' x' t', 0 ≤ v ∧ v < most ∧ cl (k + 1) "_law_pick" [R_ ns l x t, I_ most] = some (I_ v, [srcD ns' l' x' t', .int most]) := by
  by_cases hm : most < 2
  · refine ⟨0, ns, l, x, t, by omega, by omega, ?_⟩
    show runDef (cl k) 100000 2 6 d__law_pick.body [R_ ns l x t, I_ most] = _
    refine run_rt (ρ' := [some (R_ ns l x t), some (I_ most), none, none, none, none]) rfl ?_ rfl rfl
    show exs (cl k) 100000 d__law_pick.body [some (R_ ns l x t), some (I_ most), none, none, none, none] = _
    unfold d__law_pick
    have e : tv (cl k) (.cmp .lt (.v 1) (.int 2)) [some (R_ ns l x t), some (I_ most), none, none, none, none] = some (true, [some (R_ ns l x t), some (I_ most), none, none, none, none]) := by
      rw [tv_ (r := ((.sh, .bool (decide (most < 2))), _)) rfl rfl rfl, decide_eq_true hm]
    exact exs_ifR e rfl
  · have e0 : tv (cl k) (.cmp .lt (.v 1) (.int 2)) [some (R_ ns l x t), some (I_ most), none, none, none, none] = some (false, [some (R_ ns l x t), some (I_ most), none, none, none, none]) := by
      rw [tv_ (r := ((.sh, .bool (decide (most < 2))), _)) rfl rfl rfl, decide_eq_false hm]
    generalize hp : pullI ns.reverse l = q
    have hpd := pull_D ns l x t
    rw [hp] at hpd
    have hm0 : most ≠ 0 := by omega
    by_cases hq : 1 < q.2
    · refine ⟨q.2.fmod most, q.1.reverse, q.2.fdiv most, x, t, (fmod_rng _ (by omega)).1, (fmod_rng _ (by omega)).2, ?_⟩
      show runDef (cl k) 100000 2 6 d__law_pick.body [R_ ns l x t, I_ most] = _
      refine run_rt (ρ' := [some (R_ q.1.reverse (q.2.fdiv most) x t), some (I_ most), none, some (I_ q.2), none, none]) rfl ?_ rfl rfl
      show exs (cl k) 100000 d__law_pick.body [some (R_ ns l x t), some (I_ most), none, none, none, none] = _
      unfold d__law_pick
      rw [exs_ifF e0 rfl, exs_pull (d := srcD ns l x t) rfl rfl rfl hpd]
      show exs (cl k) 100000 _ [some (R_ q.1.reverse q.2 x t), some (I_ most), none, none, none, none] = _
      rw [exs_asg (ρ' := [some (R_ q.1.reverse q.2 x t), some (I_ most), none, some (I_ q.2), none, none]) rfl rfl]
      have e1 : tv (cl k) (.cmp .gt (.v 3) (.int 1)) [some (R_ q.1.reverse q.2 x t), some (I_ most), none, some (I_ q.2), none, none] = some (true, [some (R_ q.1.reverse q.2 x t), some (I_ most), none, some (I_ q.2), none, none]) := by
        rw [tv_ (r := ((.sh, .bool (decide (1 < q.2))), _)) rfl rfl rfl, decide_eq_true hq]
      have dv : divOk most = true := by
        unfold divOk
        rw [decide_eq_true hm0, decide_eq_true (Nat.lt_of_le_of_lt (Nat.log2_le_self _) (by omega))]
        rfl
      have e2 : ev (cl k) (.bin .fdiv (.v 3) (.v 1)) [some (R_ q.1.reverse q.2 x t), some (I_ most), none, some (I_ q.2), none, none] = some (I_ (q.2.fdiv most), [some (R_ q.1.reverse q.2 x t), some (I_ most), none, some (I_ q.2), none, none]) := bin_fdiv rfl rfl dv
      refine exs_ifR e1 ?_
      rw [exs_setf (d := srcD q.1.reverse q.2 x t) (d' := srcD q.1.reverse (q.2.fdiv most) x t) (keep_ e2 rfl) rfl rfl]
      refine exs_ret (r := (I_ (q.2.fmod most), _)) (bin_mod (b1_int rfl) rfl hm0) rfl
    · generalize hs : ((x + (t + 1) * 104729).fmod 998244353) = s1
      have hs1 : 0 ≤ s1 ∧ s1 < 998244353 := by rw [← hs]; exact fmod_rng _ (by decide)
      generalize hs2 : ((s1 * s1 + (t + 1) * 17).fmod 2147483647) = s2
      refine ⟨(s2.fdiv 16).fmod most, q.1.reverse, q.2, x, t + 1, (fmod_rng _ (by omega)).1, (fmod_rng _ (by omega)).2, ?_⟩
      show runDef (cl k) 100000 2 6 d__law_pick.body [R_ ns l x t, I_ most] = _
      refine run_rt (ρ' := [some (R_ q.1.reverse q.2 x (t + 1)), some (I_ most), none, some (I_ q.2), some (I_ (t + 1)), some (I_ s2)]) rfl ?_ rfl rfl
      show exs (cl k) 100000 d__law_pick.body [some (R_ ns l x t), some (I_ most), none, none, none, none] = _
      unfold d__law_pick
      rw [exs_ifF e0 rfl, exs_pull (d := srcD ns l x t) rfl rfl rfl hpd]
      show exs (cl k) 100000 _ [some (R_ q.1.reverse q.2 x t), some (I_ most), none, none, none, none] = _
      rw [exs_asg (ρ' := [some (R_ q.1.reverse q.2 x t), some (I_ most), none, some (I_ q.2), none, none]) rfl rfl]
      have e1 : tv (cl k) (.cmp .gt (.v 3) (.int 1)) [some (R_ q.1.reverse q.2 x t), some (I_ most), none, some (I_ q.2), none, none] = some (false, [some (R_ q.1.reverse q.2 x t), some (I_ most), none, some (I_ q.2), none, none]) := by
        rw [tv_ (r := ((.sh, .bool (decide (1 < q.2))), _)) rfl rfl rfl, decide_eq_false hq]
      rw [exs_ifF e1 rfl, exs_setf (v := t + 1) (d := srcD q.1.reverse q.2 x t) (d' := srcD q.1.reverse q.2 x (t + 1)) rfl rfl rfl]
      show exs (cl k) 100000 _ [some (R_ q.1.reverse q.2 x (t + 1)), some (I_ most), none, some (I_ q.2), none, none] = _
      rw [exs_asg (ρ' := [some (R_ q.1.reverse q.2 x (t + 1)), some (I_ most), none, some (I_ q.2), some (I_ (t + 1)), none]) rfl rfl]
      have e3 : ev (cl k) (.bin .mod (.b1 .int (.bin .add (.fl 0 "mixed") (.bin .mul (.v 4) (.int 104729)))) (.int 998244353)) [some (R_ q.1.reverse q.2 x (t + 1)), some (I_ most), none, some (I_ q.2), some (I_ (t + 1)), none] = some (I_ s1, [some (R_ q.1.reverse q.2 x (t + 1)), some (I_ most), none, some (I_ q.2), some (I_ (t + 1)), none]) := by
        rw [← hs]
        exact bin_mod (b1_int (bin_add (i := x) rfl (bin_mul rfl rfl (mul_small (by decide))))) rfl (by decide)
      rw [exs_asg (ρ' := [some (R_ q.1.reverse q.2 x (t + 1)), some (I_ most), none, some (I_ q.2), some (I_ (t + 1)), some (I_ s1)]) e3 rfl]
      have e4 : ev (cl k) (.bin .mod (.b1 .int (.bin .add (.bin .mul (.v 5) (.v 5)) (.bin .mul (.v 4) (.int 17)))) (.int 2147483647)) [some (R_ q.1.reverse q.2 x (t + 1)), some (I_ most), none, some (I_ q.2), some (I_ (t + 1)), some (I_ s1)] = some (I_ s2, [some (R_ q.1.reverse q.2 x (t + 1)), some (I_ most), none, some (I_ q.2), some (I_ (t + 1)), some (I_ s1)]) := by
        rw [← hs2]
        exact bin_mod (b1_int (bin_add (bin_mul rfl rfl (mul_small (by omega))) (bin_mul rfl rfl (mul_small (by decide))))) rfl (by decide)
      rw [exs_asg (ρ' := [some (R_ q.1.reverse q.2 x (t + 1)), some (I_ most), none, some (I_ q.2), some (I_ (t + 1)), some (I_ s2)]) e4 rfl]
      exact exs_ret (r := (I_ ((s2.fdiv 16).fmod most), _)) (bin_mod (b1_int (bin_fdiv rfl rfl (by decide +kernel))) rfl hm0) rfl
end K53

end
section
set_option Elab.async false
set_option linter.all false
set_option maxRecDepth 100000
set_option maxHeartbeats 4000000
/-! k53, the record opened. -/
namespace K53
open PySem Mini
theorem oc_loop (c : CallS) (P : Option Sl) (z : Option Sl) : ∀ (ns : List Int) (s : Int) (u : Option Sl), (u = none ∨ ∃ a, u = some (I_ a)) → ∃ s' u', (u' = none ∨ ∃ a, u' = some (I_ a)) ∧ Runs (turnF c 100000 (.nm 2) p__law_open_cells_0) (ns.map .int) [P, some (I_ s), u, z] [P, some (I_ s'), u', z]
  | [], s, u, hu => ⟨s, u, hu, .nil⟩
  | a :: ns, s, u, hu => by
    obtain ⟨s', u', hu', r⟩ := oc_loop c P z ns ((s * 69069 + a * 31 + 5).fmod 2147483629) (some (I_ a)) (.inr ⟨a, rfl⟩)
    refine ⟨s', u', hu', .cons (turn_ok rfl ?_) r⟩
    show exs c 100000 p__law_open_cells_0 [P, some (I_ s), some (I_ a), z] = _
    unfold p__law_open_cells_0
    have e : ev c (.bin .mod (.b1 .int (.bin .add (.bin .add (.bin .mul (.v 1) (.int 69069)) (.bin .mul (.v 2) (.int 31))) (.int 5))) (.int 2147483629)) [P, some (I_ s), some (I_ a), z] = some (I_ ((s * 69069 + a * 31 + 5).fmod 2147483629), [P, some (I_ s), some (I_ a), z]) :=
      bin_mod (b1_int (bin_add (bin_add (bin_mul rfl rfl (mul_small (by decide))) (bin_mul rfl rfl (mul_small (by decide)))) rfl)) rfl (by decide)
    rw [exs_asg (ρ' := [P, some (I_ ((s * 69069 + a * 31 + 5).fmod 2147483629)), some (I_ a), z]) e rfl]
    rfl
def ab (i : Int) : Int := if i < 0 then -i else i
def abG : Dt → Dt
  | .int a => .int (ab a)
  | d => d
theorem abG_map (ns : List Int) : (ns.map PyData.int).map abG = (ns.map ab).map PyData.int := by
  rw [List.map_map, List.map_map]
  rfl
theorem ev_mkS_ {c : CallS} {ρ ρ1 ρ2 : En} {a b : E} {ds : List Dt} {ns : List Int} {s : Int} (h1 : ev c a ρ = some ((.own, .list ds), ρ1)) (h2 : allI ds = some ns) (h3 : keepS (ev c b ρ1) = some (.int s, ρ2)) : ev c (.mkS a b) ρ = some (R_ ns 1 s 0, ρ2) := by
  simp only [ev, h1, Option.bind_some, h2, h3]
theorem open_cells (k : Nat) (ns : List Int) (h : ns.length ≤ 63) : ∃ cs s, cl (k + 1) "_law_open_cells" [(.src, lI_ ns)] = some (R_ cs 1 s 0, [lI_ ns]) := by
  obtain ⟨s', u', hu, r⟩ := oc_loop (cl k) (some (.src, lI_ ns)) none ns 11 none (.inl rfl)
  refine ⟨(ns.map ab).reverse, s', ?_⟩
  show runDef (cl k) 100000 1 4 d__law_open_cells.body [(.src, lI_ ns)] = _
  refine run_rt (ρ' := [some (.src, lI_ ns), some (I_ s'), u', some (L_ (ns.map ab))]) rfl ?_ rfl rfl
  show exs (cl k) 100000 d__law_open_cells.body [some (.src, lI_ ns), none, none, none] = _
  unfold d__law_open_cells
  rw [exs_asg (ρ' := [some (.src, lI_ ns), some (I_ 11), none, none]) rfl rfl, exs_for (ds := ns.map PyData.int) rfl r.run]
  have c1 := ev_comp_ (cl := cl k) (ρ := [some (.src, lI_ ns), some (I_ s'), u', none]) (ρ1 := [some (.src, lI_ ns), some (I_ s'), u', none]) (elt := p__law_open_cells_1) (p := .nm 2) (it := .scr 0) (own := [2]) (ds := ns.map .int) abG rfl
    (by rw [List.length_map]; exact Nat.le_trans h (by decide)) (by rcases hu with rfl | ⟨a, rfl⟩ <;> rfl) fun d hd => by
    obtain ⟨a, _, rfl⟩ := List.mem_map.mp hd
    exact ⟨[some (.src, lI_ ns), some (I_ s'), some (I_ a), none], [some (.src, lI_ ns), some (I_ s'), some (I_ a), none], rfl, rfl, rfl⟩
  rw [abG_map] at c1
  rw [exs_asg (ρ' := [some (.src, lI_ ns), some (I_ s'), u', some (L_ (ns.map ab))]) c1 rfl]
  have c2 : ev (cl k) (.mkS (.rev (.v 3)) (.sh 1)) [some (.src, lI_ ns), some (I_ s'), u', some (L_ (ns.map ab))] = some (R_ (ns.map ab).reverse 1 s' 0, [some (.src, lI_ ns), some (I_ s'), u', some (L_ (ns.map ab))]) := by
    have e1 : ev (cl k) (.rev (.v 3)) [some (.src, lI_ ns), some (I_ s'), u', some (L_ (ns.map ab))] = some (L_ (ns.map ab).reverse, [some (.src, lI_ ns), some (I_ s'), u', some (L_ (ns.map ab))]) := by
      show some ((Fl.own, PyData.list ((ns.map ab).map PyData.int).reverse), _) = _
      rw [← List.map_reverse]
    have e2 : ev (cl k) (.sh 1) [some (.src, lI_ ns), some (I_ s'), u', some (L_ (ns.map ab))] = some (I_ s', [some (.src, lI_ ns), some (I_ s'), u', some (L_ (ns.map ab))]) := rfl
    refine ev_mkS_ (ds := ((ns.map ab).reverse.map .int)) e1 (allI_ints _) (keep_ e2 rfl)
  exact exs_ret c2 rfl
end K53

end
section
set_option Elab.async false
set_option linter.all false
set_option maxRecDepth 100000
set_option maxHeartbeats 4000000
/-! k53, a polynomial drawn. -/
namespace K53
open PySem Mini
/-- a record in slot i -/
def isR (d : Sl) : Prop := ∃ ns l x t, d = R_ ns l x t
theorem ev_pick (k : Nat) {i : Nat} {e : E} {ρ : En} {s : Sl} {most : Int} (hs : isR s) (h : rd ρ i = some s) (he : ∀ ρ, ev (cl (k + 1)) e ρ = some (I_ most, ρ)) (hio : ∀ j, e ≠ .io j) (h1 : 1 ≤ most) (h2 : most ≤ 1000) :
    ∃ v s', 0 ≤ v ∧ v < most ∧ isR s' ∧ ev (cl (k + 1)) (.call "_law_pick" (.cons (.io i) (.cons e .nil))) ρ = some (I_ v, ρ.set i (some s')) := by
  obtain ⟨ns, l, x, t, rfl⟩ := hs
  obtain ⟨v, ns', l', x', t', a1, a2, a3⟩ := pick k ns l x t most h1 h2
  refine ⟨v, R_ ns' l' x' t', a1, a2, ⟨_, _, _, _, rfl⟩, ?_⟩
  have ea : evA (cl (k + 1)) (.cons (.io i) (.cons e .nil)) ρ = some (([.inr i, .inl (.int most)], [i]), ρ) := by
    have e1 : evA (cl (k + 1)) (.cons e .nil) ρ = some (([.inl (.int most)], []), ρ) := by
      have : evA (cl (k + 1)) (.cons e .nil) ρ = (keepS (ev (cl (k + 1)) e ρ)).bind fun x => (evA (cl (k + 1)) .nil x.2).map fun q => ((.inl x.1 :: q.1.1, q.1.2), q.2) := by
        cases e <;> first | rfl | exact absurd rfl (hio _)
      rw [this, he ρ]
      rfl
    show (if (rd ρ i).isSome = true then (evA (cl (k + 1)) (.cons e .nil) ρ).map (fun q => ((.inr i :: q.1.1, i :: q.1.2), q.2)) else none) = _
    rw [h, if_pos (show (some (R_ ns l x t)).isSome = true from rfl), e1]
    rfl
  refine ev_call_ ea (by simp [h]) (q := (I_ v, [srcD ns' l' x' t', .int most])) ?_ rfl ?_
  · show cl (k + 1) "_law_pick" [(rd ρ i).getD (.sh, .none), I_ most] = _
    rw [h]
    exact a3
  · show (match rd ρ i with | some (fl, _) => (some ρ).map fun (ρ' : En) => ρ'.set i (some (fl, srcD ns' l' x' t')) | none => none) = _
    rw [h]
    rfl
end K53

end
section
set_option Elab.async false
set_option linter.all false
set_option maxRecDepth 100000
set_option maxHeartbeats 4000000
/-! k53, a polynomial drawn: its loop. -/
namespace K53
open PySem Mini
def bd (M : Nat) (p : List Int) : Prop := ∀ c ∈ p, c.natAbs ≤ M
abbrev envP (s : Sl) (P u2 u3 u4 u5 : Option Sl) : En := [some s, P, u2, u3, u4, u5, none, none]
def subR (r : Int) (p : List Int) : List Int := ((0 :: p).zip (p ++ [0])).map fun q => q.1 - r * q.2
theorem subR_len (r : Int) (p : List Int) : (subR r p).length = p.length + 1 := by
  unfold subR
  simp
theorem subR_bd {r : Int} {p : List Int} {M : Nat} (h : bd M p) (hr : r.natAbs ≤ 6) : bd (7 * M) (subR r p) := by
  intro c hc
  unfold subR at hc
  obtain ⟨⟨a, b⟩, hm, rfl⟩ := List.mem_map.mp hc
  obtain ⟨h1, h2⟩ := List.of_mem_zip hm
  have ha : a.natAbs ≤ M := by
    rcases List.mem_cons.mp h1 with rfl | h1
    · simp
    · exact h a h1
  have hb : b.natAbs ≤ M := by
    rcases List.mem_append.mp h2 with h2 | h2
    · exact h b h2
    · rw [List.mem_singleton.mp h2]; simp
  have h3 : (r * b).natAbs ≤ 6 * M := by rw [Int.natAbs_mul]; exact Nat.mul_le_mul hr hb
  show (a - r * b).natAbs ≤ 7 * M
  omega
def subG (r : Int) : Dt → Dt
  | .tuple [.int a, .int b] => .int (a - r * b)
  | d => d
theorem dp_step (k : Nat) {s : Sl} (hs : isR s) (p : List Int) (hp : p.length ≤ 50) (u2 u3 u4 u5 : Option Sl) : ∃ r s' u3' u4', r.natAbs ≤ 6 ∧ isR s' ∧ exs (cl (k + 1)) 100000 p__law_draw_poly_1 (envP s (some (L_ p)) u2 u3 u4 u5) = some (.nx (envP s' (some (L_ (subR r p))) u2 u3' u4' u5)) := by
  obtain ⟨v, s', a1, a2, a3, a4⟩ := ev_pick k (i := 0) (e := .int 13) (ρ := envP s (some (L_ p)) u2 u3 u4 u5) (most := 13) hs rfl (fun _ => rfl) (fun j h => by cases h) (by decide) (by decide)
  have a4' : ev (cl (k + 1)) (.call "_law_pick" (.cons (.io 0) (.cons (.int 13) .nil))) (envP s (some (L_ p)) u2 u3 u4 u5) = some (I_ v, envP s' (some (L_ p)) u2 u3 u4 u5) := a4
  refine ⟨v - 6, s', some (I_ (v - 6)), some (.sh, lI_ (0 :: p)), by omega, a3, ?_⟩
  unfold p__law_draw_poly_1
  have e1 : ev (cl (k + 1)) (.bin .sub (.call "_law_pick" (.cons (.io 0) (.cons (.int 13) .nil))) (.int 6)) (envP s (some (L_ p)) u2 u3 u4 u5) = some (I_ (v - 6), envP s' (some (L_ p)) u2 u3 u4 u5) := bin_sub a4' rfl
  have e2 : ev (cl (k + 1)) (.bin .add (.lst (.cons (.int 0) .nil)) (.v 1)) (envP s' (some (L_ p)) u2 u3 u4 u5) = some (L_ (0 :: p), envP s' (some (L_ p)) u2 u3 u4 u5) := by
    refine ev_bin_ (r := (L_ [0], _)) (q := ((.bo 1, lI_ p), _)) rfl rfl rfl rfl ?_
    exact if_pos (by simp; exact Nat.le_trans (show _ ≤ 100 by omega) (by decide))
  have e3 := ev_tup_ (evL_cons_ (keep_ e1 rfl) (evL_cons_ (r := .nil) (keep_ e2 rfl) rfl)) (show 2 ≤ lim by decide)
  rw [exs_asg (ρ' := envP s' (some (L_ p)) u2 (some (I_ (v - 6))) (some (.sh, lI_ (0 :: p))) u5) e3 rfl]
  have e4 : evI (cl (k + 1)) (.zip (.sh 4) (.bin .add (.v 1) (.lst (.cons (.int 0) .nil)))) (envP s' (some (L_ p)) u2 (some (I_ (v - 6))) (some (.sh, lI_ (0 :: p))) u5) = some (((0 :: p).zip (p ++ [0])).map (fun q => .tuple [.int q.1, .int q.2]), envP s' (some (L_ p)) u2 (some (I_ (v - 6))) (some (.sh, lI_ (0 :: p))) u5) := by
    have e5 : ev (cl (k + 1)) (.bin .add (.v 1) (.lst (.cons (.int 0) .nil))) (envP s' (some (L_ p)) u2 (some (I_ (v - 6))) (some (.sh, lI_ (0 :: p))) u5) = some (L_ (p ++ [0]), envP s' (some (L_ p)) u2 (some (I_ (v - 6))) (some (.sh, lI_ (0 :: p))) u5) := by
      refine ev_bin_ (r := ((.bo 1, lI_ p), _)) (q := (L_ [0], _)) rfl rfl rfl rfl ?_
      refine (if_pos (by simp; exact Nat.le_trans (show _ ≤ 100 by omega) (by decide))).trans ?_
      rw [← List.map_append]
    rw [← zipD_ints]
    have e6 : evI (cl (k + 1)) (.zip (.sh 4) (.bin .add (.v 1) (.lst (.cons (.int 0) .nil)))) (envP s' (some (L_ p)) u2 (some (I_ (v - 6))) (some (.sh, lI_ (0 :: p))) u5) = (keepS (ev (cl (k + 1)) (.bin .add (.v 1) (.lst (.cons (.int 0) .nil))) (envP s' (some (L_ p)) u2 (some (I_ (v - 6))) (some (.sh, lI_ (0 :: p))) u5))).bind fun q => (zip2 (lI_ (0 :: p)) q.1).map fun ds => (ds, q.2) := rfl
    rw [e6, keep_ e5 rfl]
    rfl
  have c := ev_comp_ (cl := cl (k + 1)) (elt := p__law_draw_poly_0) (p := .tp (.cons (.nm 6) (.cons (.nm 7) .nil))) (own := [6, 7]) (subG (v - 6)) e4 (by
    rw [List.length_map, List.length_zip]
    simp only [List.length_cons, List.length_append, List.length_nil]
    exact Nat.le_trans (show _ ≤ 100 by omega) (by decide)) rfl fun d hd => by
    obtain ⟨⟨a, b⟩, _, rfl⟩ := List.mem_map.mp hd
    refine ⟨[some s', some (L_ p), u2, some (I_ (v - 6)), some (.sh, lI_ (0 :: p)), u5, some (I_ a), some (I_ b)], [some s', some (L_ p), u2, some (I_ (v - 6)), some (.sh, lI_ (0 :: p)), u5, some (I_ a), some (I_ b)], rfl, ?_, rfl⟩
    have e7 : ev (cl (k + 1)) p__law_draw_poly_0 [some s', some (L_ p), u2, some (I_ (v - 6)), some (.sh, lI_ (0 :: p)), u5, some (I_ a), some (I_ b)] = some (I_ (a - (v - 6) * b), [some s', some (L_ p), u2, some (I_ (v - 6)), some (.sh, lI_ (0 :: p)), u5, some (I_ a), some (I_ b)]) :=
      bin_sub rfl (bin_mul rfl rfl (mul_small' (show (v - 6).natAbs < 2 ^ 64 by omega)))
    exact keep_ e7 rfl
  rw [List.map_map] at c
  have c' : ev (cl (k + 1)) (.comp p__law_draw_poly_0 (.tp (.cons (.nm 6) (.cons (.nm 7) .nil))) (.zip (.sh 4) (.bin .add (.v 1) (.lst (.cons (.int 0) .nil)))) [6, 7]) (envP s' (some (L_ p)) u2 (some (I_ (v - 6))) (some (.sh, lI_ (0 :: p))) u5) = some (L_ (subR (v - 6) p), envP s' (some (L_ p)) u2 (some (I_ (v - 6))) (some (.sh, lI_ (0 :: p))) u5) := by
    rw [c]
    unfold subR
    show _ = some ((Fl.own, PyData.list ((((0 :: p).zip (p ++ [0])).map fun q => q.1 - (v - 6) * q.2).map PyData.int)), _)
    rw [List.map_map (l := (0 :: p).zip (p ++ [0])) (g := PyData.int)]
    rfl
  rw [exs_asg (ρ' := envP s' (some (L_ (subR (v - 6) p))) u2 (some (I_ (v - 6))) (some (.sh, lI_ (0 :: p))) u5) c' rfl]
  rfl
end K53

end
section
set_option Elab.async false
set_option linter.all false
set_option maxRecDepth 100000
set_option maxHeartbeats 4000000
/-! k53, a polynomial drawn. -/
namespace K53
open PySem Mini
theorem bd_mono {M N : Nat} {p : List Int} (h : bd M p) (hn : M ≤ N) : bd N p := fun c hc => Nat.le_trans (h c hc) hn
theorem dp_loop (k : Nat) (u5 : Option Sl) : ∀ (ds : List Dt) (s : Sl) (p : List Int) (M : Nat) (u2 u3 u4 : Option Sl), isR s → bd M p → p.length + ds.length ≤ 50 → ∃ s' p' u2' u3' u4', isR s' ∧ bd (7 ^ ds.length * M) p' ∧ p'.length = p.length + ds.length ∧
    Runs (turnF (cl (k + 1)) 100000 (.nm 2) p__law_draw_poly_1) ds (envP s (some (L_ p)) u2 u3 u4 u5) (envP s' (some (L_ p')) u2' u3' u4' u5)
  | [], s, p, M, u2, u3, u4, hs, hp, _ => ⟨s, p, u2, u3, u4, hs, by simpa using hp, rfl, .nil⟩
  | d :: ds, s, p, M, u2, u3, u4, hs, hp, hl => by
    have hl' : p.length + (ds.length + 1) ≤ 50 := hl
    obtain ⟨r, s1, u3a, u4a, hr, hs1, st⟩ := dp_step k hs p (by omega) (some (.sh, d)) u3 u4 u5
    obtain ⟨s', p', u2', u3', u4', b1, b2, b3, b4⟩ := dp_loop k u5 ds s1 (subR r p) (7 * M) (some (.sh, d)) u3a u4a hs1 (subR_bd hp hr) (by rw [subR_len]; omega)
    refine ⟨s', p', u2', u3', u4', b1, bd_mono b2 (Nat.le_of_eq ?_), by rw [b3, subR_len, List.length_cons]; omega, .cons (turn_ok rfl st) b4⟩
    rw [List.length_cons, Nat.pow_succ, Nat.mul_assoc]
theorem dq_comp (k : Nat) (P u2 u3 u4 u5 : Option Sl) (M : Nat) : ∀ (p : List Int) (s : Sl), isR s → bd M p → ∃ p' s', isR s' ∧ p'.length = p.length ∧ bd (M + 4) p' ∧
    compL (fun ρ' x => (Mini.bind (.nm 6) (.sh, x) ρ').bind fun ρ'' => (keepS (ev (cl (k + 1)) p__law_draw_poly_2 ρ'')).map fun q => (some q.1, wipe q.2 [6])) (p.map .int) (envP s P u2 u3 u4 u5) = some (p'.map .int, envP s' P u2 u3 u4 u5)
  | [], s, hs, _ => ⟨[], s, hs, rfl, (fun c hc => by cases hc), rfl⟩
  | a :: p, s, hs, hp => by
    obtain ⟨v, s1, a1, a2, a3, a4⟩ := ev_pick k (i := 0) (e := .int 5) (ρ := [some s, P, u2, u3, u4, u5, some (I_ a), none]) (most := 5) hs rfl (fun _ => rfl) (fun j h => by cases h) (by decide) (by decide)
    have a4' : ev (cl (k + 1)) (.call "_law_pick" (.cons (.io 0) (.cons (.int 5) .nil))) [some s, P, u2, u3, u4, u5, some (I_ a), none] = some (I_ v, [some s1, P, u2, u3, u4, u5, some (I_ a), none]) := a4
    obtain ⟨p', s', b1, b2, b3, b4⟩ := dq_comp k P u2 u3 u4 u5 M p s1 a3 fun c hc => hp c (List.mem_cons_of_mem _ hc)
    have ha := hp a (List.mem_cons_self ..)
    refine ⟨(a + v - 2) :: p', s', b1, by simp [b2], fun c hc => ?_, ?_⟩
    · rcases List.mem_cons.mp hc with rfl | hc
      · omega
      · exact b3 c hc
    · have e1 : ev (cl (k + 1)) p__law_draw_poly_2 [some s, P, u2, u3, u4, u5, some (I_ a), none] = some (I_ (a + v - 2), [some s1, P, u2, u3, u4, u5, some (I_ a), none]) := bin_sub (bin_add rfl a4') rfl
      show (((keepS (ev (cl (k + 1)) p__law_draw_poly_2 [some s, P, u2, u3, u4, u5, some (I_ a), none])).map fun q => (some q.1, wipe q.2 [6])).bind fun r => (compL _ (p.map .int) r.2).map fun q => (r.1.toList ++ q.1, q.2)) = _
      rw [keep_ e1 rfl]
      show ((compL _ (p.map .int) (envP s1 P u2 u3 u4 u5)).map fun q => ((some (PyData.int (a + v - 2))).toList ++ q.1, q.2)) = _
      rw [b4]
      rfl
end K53

end
section
set_option Elab.async false
set_option linter.all false
set_option maxRecDepth 100000
set_option maxHeartbeats 4000000
/-! k53, _law_draw_poly. -/
namespace K53
open PySem Mini
theorem evI_rng1_ {c : CallS} {ρ ρ1 : En} {a : E} {i : Int} (h1 : keepS (ev c a ρ) = some (.int i, ρ1)) (h2 : bnd62 i = true) : evI c (.rng1 a) ρ = some (Mini.upTo 0 1 i.toNat, ρ1) := by
  simp only [evI, h1, Option.bind_some, h2, if_true]
def mulG (m : Int) : Dt → Dt
  | .int a => .int (m * a)
  | d => d
theorem mulG_map (m : Int) (p : List Int) : (p.map PyData.int).map (mulG m) = (p.map fun a => m * a).map PyData.int := by
  rw [List.map_map, List.map_map]
  rfl
/-- the last part: the sign, the noughts behind -/
theorem dp_end (k : Nat) {s : Sl} (hs : isR s) (p : List Int) (hp : p.length ≤ 50) (M : Nat) (hb : bd M p) (u2 u3 u4 u5 : Option Sl) : ∃ q s' u5', isR s' ∧ p.length ≤ q.length ∧ q.length ≤ p.length + 1 ∧ bd M q ∧
    exs (cl (k + 1)) 100000 (.cons (.asg (.nm 5) (.bin .sub (.int 1) (.bin .mul (.int 2) (.call "_law_pick" (.cons (.io 0) (.cons (.int 2) .nil)))))) (.cons (.ret (.b1 .tuple (.bin .add (.comp p__law_draw_poly_3 (.nm 6) (.e (.sh 1)) [6]) (.bin .mul (.lst (.cons (.int 0) .nil)) (.call "_law_pick" (.cons (.io 0) (.cons (.int 2) .nil))))))) .nil))
      (envP s (some (L_ p)) u2 u3 u4 u5) = some (.rt (T_ q) (envP s' (some (.sh, lI_ p)) u2 u3 u4 u5')) := by
  obtain ⟨v, s1, a1, a2, a3, a4⟩ := ev_pick k (i := 0) (e := .int 2) (ρ := envP s (some (L_ p)) u2 u3 u4 u5) (most := 2) hs rfl (fun _ => rfl) (fun j h => by cases h) (by decide) (by decide)
  have a4' : ev (cl (k + 1)) (.call "_law_pick" (.cons (.io 0) (.cons (.int 2) .nil))) (envP s (some (L_ p)) u2 u3 u4 u5) = some (I_ v, envP s1 (some (L_ p)) u2 u3 u4 u5) := a4
  generalize hsg : 1 - 2 * v = sg
  have hsg' : sg.natAbs = 1 := by omega
  obtain ⟨w, s2, b1, b2, b3, b4⟩ := ev_pick k (i := 0) (e := .int 2) (ρ := envP s1 (some (.sh, lI_ p)) u2 u3 u4 (some (I_ sg))) (most := 2) a3 rfl (fun _ => rfl) (fun j h => by cases h) (by decide) (by decide)
  have b4' : ev (cl (k + 1)) (.call "_law_pick" (.cons (.io 0) (.cons (.int 2) .nil))) (envP s1 (some (.sh, lI_ p)) u2 u3 u4 (some (I_ sg))) = some (I_ w, envP s2 (some (.sh, lI_ p)) u2 u3 u4 (some (I_ sg))) := b4
  refine ⟨(p.map fun a => sg * a) ++ List.replicate w.toNat 0, s2, some (I_ sg), b3, by simp, by simp; omega, fun c hc => ?_, ?_⟩
  · rcases List.mem_append.mp hc with hc | hc
    · obtain ⟨a, ha, rfl⟩ := List.mem_map.mp hc
      show (sg * a).natAbs ≤ M
      rw [Int.natAbs_mul, hsg', Nat.one_mul]
      exact hb a ha
    · rw [(List.mem_replicate.mp hc).2]
      simp
  · have e1 : ev (cl (k + 1)) (.bin .sub (.int 1) (.bin .mul (.int 2) (.call "_law_pick" (.cons (.io 0) (.cons (.int 2) .nil))))) (envP s (some (L_ p)) u2 u3 u4 u5) = some (I_ sg, envP s1 (some (L_ p)) u2 u3 u4 u5) := by
      rw [← hsg]
      exact bin_sub rfl (bin_mul rfl a4' (mul_small' (by decide)))
    rw [exs_asg (ρ' := envP s1 (some (L_ p)) u2 u3 u4 (some (I_ sg))) e1 rfl]
    have c := ev_comp_ (cl := cl (k + 1)) (ρ := envP s1 (some (L_ p)) u2 u3 u4 (some (I_ sg))) (ρ1 := envP s1 (some (.sh, lI_ p)) u2 u3 u4 (some (I_ sg))) (elt := p__law_draw_poly_3) (p := .nm 6) (it := .e (.sh 1)) (own := [6]) (ds := p.map .int) (mulG sg) rfl
      (by rw [List.length_map]; exact Nat.le_trans hp (by decide)) rfl fun d hd => by
      obtain ⟨a, _, rfl⟩ := List.mem_map.mp hd
      refine ⟨[some s1, some (.sh, lI_ p), u2, u3, u4, some (I_ sg), some (I_ a), none], [some s1, some (.sh, lI_ p), u2, u3, u4, some (I_ sg), some (I_ a), none], rfl, ?_, rfl⟩
      have e7 : ev (cl (k + 1)) p__law_draw_poly_3 [some s1, some (.sh, lI_ p), u2, u3, u4, some (I_ sg), some (I_ a), none] = some (I_ (sg * a), [some s1, some (.sh, lI_ p), u2, u3, u4, some (I_ sg), some (I_ a), none]) := bin_mul rfl rfl (mul_small' (by omega))
      exact keep_ e7 rfl
    rw [mulG_map] at c
    have e2 : ev (cl (k + 1)) (.bin .mul (.lst (.cons (.int 0) .nil)) (.call "_law_pick" (.cons (.io 0) (.cons (.int 2) .nil)))) (envP s1 (some (.sh, lI_ p)) u2 u3 u4 (some (I_ sg))) = some (L_ (List.replicate w.toNat 0), envP s2 (some (.sh, lI_ p)) u2 u3 u4 (some (I_ sg))) := by
      refine ev_bin_ (r := (L_ [0], envP s1 (some (.sh, lI_ p)) u2 u3 u4 (some (I_ sg)))) rfl rfl b4' rfl ?_
      show (if 1 * w.toNat ≤ lim ∧ w.natAbs < 2 ^ 60 then some (Fl.own, PyData.list (List.replicate w.toNat [PyData.int 0]).flatten) else none) = _
      rw [if_pos ⟨Nat.le_trans (show 1 * w.toNat ≤ 10 by omega) (by decide), by omega⟩, flat_rep, L_, lI_, List.map_replicate]
    have e3 : ev (cl (k + 1)) (.bin .add (.comp p__law_draw_poly_3 (.nm 6) (.e (.sh 1)) [6]) (.bin .mul (.lst (.cons (.int 0) .nil)) (.call "_law_pick" (.cons (.io 0) (.cons (.int 2) .nil))))) (envP s1 (some (L_ p)) u2 u3 u4 (some (I_ sg))) = some (L_ ((p.map fun a => sg * a) ++ List.replicate w.toNat 0), envP s2 (some (.sh, lI_ p)) u2 u3 u4 (some (I_ sg))) := by
      refine ev_bin_ c rfl e2 rfl ?_
      show (if ((p.map fun a => sg * a).map PyData.int).length + ((List.replicate w.toNat (0 : Int)).map PyData.int).length ≤ lim then some (Fl.own, PyData.list (((p.map fun a => sg * a).map PyData.int) ++ ((List.replicate w.toNat (0 : Int)).map PyData.int))) else none) = _
      rw [if_pos (by simp only [List.length_map, List.length_replicate]; exact Nat.le_trans (show _ ≤ 100 by omega) (by decide)), ← List.map_append]
    exact exs_ret (ev_b1_ e3 rfl rfl) rfl
theorem draw_poly (k : Nat) {s : Sl} (hs : isR s) : ∃ p ns l x t, 1 ≤ p.length ∧ p.length ≤ 8 ∧ bd 70000 p ∧ cl (k + 2) "_law_draw_poly" [s] = some (T_ p, [srcD ns l x t]) := by
  obtain ⟨v, s1, a1, a2, a3, a4⟩ := ev_pick k (i := 0) (e := .int 4) (ρ := envP s none none none none none) (most := 4) hs rfl (fun _ => rfl) (fun j h => by cases h) (by decide) (by decide)
  have a4' : ev (cl (k + 1)) (.call "_law_pick" (.cons (.io 0) (.cons (.int 4) .nil))) (envP s none none none none none) = some (I_ v, envP s1 none none none none none) := a4
  have e1 : ev (cl (k + 1)) (.lst (.cons (.bin .add (.int 1) (.call "_law_pick" (.cons (.io 0) (.cons (.int 4) .nil)))) .nil)) (envP s none none none none none) = some (L_ [1 + v], envP s1 none none none none none) :=
    ev_lst_ (evL_cons_ (r := .nil) (keep_ (bin_add (i := 1) rfl a4') rfl) rfl) (show 1 ≤ lim by decide)
  obtain ⟨n, s2, b1, b2, b3, b4⟩ := ev_pick k (i := 0) (e := .int 6) (ρ := envP s1 (some (L_ [1 + v])) none none none none) (most := 6) a3 rfl (fun _ => rfl) (fun j h => by cases h) (by decide) (by decide)
  have b4' : ev (cl (k + 1)) (.call "_law_pick" (.cons (.io 0) (.cons (.int 6) .nil))) (envP s1 (some (L_ [1 + v])) none none none none) = some (I_ n, envP s2 (some (L_ [1 + v])) none none none none) := b4
  have hb0 : bd 4 [1 + v] := fun c hc => by rw [List.mem_singleton.mp hc]; omega
  have hul : (Mini.upTo 0 1 n.toNat).length = n.toNat := upTo_len
  obtain ⟨s3, p3, u2, u3, u4, c1, c2, c3, c4⟩ := dp_loop k none (Mini.upTo 0 1 n.toNat) s2 [1 + v] 4 none none none b3 hb0 (by rw [hul]; simp; omega)
  rw [hul] at c2 c3
  have c2' : bd 67228 p3 := bd_mono c2 (by
    have : 7 ^ n.toNat ≤ 7 ^ 5 := Nat.pow_le_pow_right (by decide) (by omega)
    omega)
  have c3' : p3.length = 1 + n.toNat := by rw [c3]; rfl
  obtain ⟨w, s4, d1, d2, d3, d4⟩ := ev_pick k (i := 0) (e := .int 3) (ρ := envP s3 (some (L_ p3)) u2 u3 u4 none) (most := 3) c1 rfl (fun _ => rfl) (fun j h => by cases h) (by decide) (by decide)
  have d4' : ev (cl (k + 1)) (.call "_law_pick" (.cons (.io 0) (.cons (.int 3) .nil))) (envP s3 (some (L_ p3)) u2 u3 u4 none) = some (I_ w, envP s4 (some (L_ p3)) u2 u3 u4 none) := d4
  have t0 := tv_ (ev_cmp_ (o := .eq) (b := .int 0) (q := (I_ 0, envP s4 (some (L_ p3)) u2 u3 u4 none)) d4' rfl rfl rfl rfl) rfl (t := decide (w = 0)) rfl
  -- behind the if
  have mid : ∃ p5 s5, isR s5 ∧ p5.length = p3.length ∧ bd 67232 p5 ∧ ∀ rest, exs (cl (k + 1)) 100000 (.cons (.ifs (.cmp .eq (.call "_law_pick" (.cons (.io 0) (.cons (.int 3) .nil))) (.int 0)) (.cons (.asg (.nm 1) (.comp p__law_draw_poly_2 (.nm 6) (.e (.sh 1)) [6])) .nil) .nil) rest) (envP s3 (some (L_ p3)) u2 u3 u4 none) = exs (cl (k + 1)) 100000 rest (envP s5 (some (L_ p5)) u2 u3 u4 none) := by
    by_cases hw : w = 0
    · rw [decide_eq_true hw] at t0
      obtain ⟨p5, s5, f1, f2, f3, f4⟩ := dq_comp k (some (.sh, lI_ p3)) u2 u3 u4 none 67228 p3 s4 d3 c2'
      refine ⟨p5, s5, f1, f2, f3, fun rest => ?_⟩
      have e5 : ev (cl (k + 1)) (.comp p__law_draw_poly_2 (.nm 6) (.e (.sh 1)) [6]) (envP s4 (some (L_ p3)) u2 u3 u4 none) = some (L_ p5, envP s5 (some (.sh, lI_ p3)) u2 u3 u4 none) := by
        have hI : evI (cl (k + 1)) (.e (.sh 1)) (envP s4 (some (L_ p3)) u2 u3 u4 none) = some (p3.map .int, envP s4 (some (.sh, lI_ p3)) u2 u3 u4 none) := rfl
        have hl : (decide ((p3.map PyData.int).length ≤ lim) && ownFree (envP s4 (some (.sh, lI_ p3)) u2 u3 u4 none) [6]) = true := by
          rw [decide_eq_true (by rw [List.length_map]; exact Nat.le_trans (show _ ≤ 100 by omega) (by decide))]
          rfl
        simp only [ev, hI, Option.bind_some]
        refine (if_pos hl).trans ?_
        show (compL _ (p3.map .int) (envP s4 (some (.sh, lI_ p3)) u2 u3 u4 none)).map _ = _
        rw [f4]
        rfl
      have e6 : exs (cl (k + 1)) 100000 (.cons (.asg (.nm 1) (.comp p__law_draw_poly_2 (.nm 6) (.e (.sh 1)) [6])) .nil) (envP s4 (some (L_ p3)) u2 u3 u4 none) = some (.nx (envP s5 (some (L_ p5)) u2 u3 u4 none)) := by
        rw [exs_asg (ρ' := envP s5 (some (L_ p5)) u2 u3 u4 none) e5 rfl]
        rfl
      rw [exs_ifT t0 e6]
    · rw [decide_eq_false hw] at t0
      exact ⟨p3, s4, d3, rfl, bd_mono c2' (by decide), fun rest => by rw [exs_ifF t0 rfl]⟩
  obtain ⟨p5, s5, f1, f2, f3, f4⟩ := mid
  obtain ⟨q, s6, u5', g1, g2, g3, g4, g5⟩ := dp_end k f1 p5 (by omega) 67232 f3 u2 u3 u4 none
  obtain ⟨ns, l, x, t, rfl⟩ := g1
  refine ⟨q, ns, l, x, t, by omega, by omega, bd_mono g4 (by decide), ?_⟩
  obtain ⟨ns0, l0, x0, t0', rfl⟩ := hs
  show runDef (cl (k + 1)) 100000 1 8 d__law_draw_poly.body [R_ ns0 l0 x0 t0'] = _
  refine run_rt (ρ' := envP (R_ ns l x t) (some (.sh, lI_ p5)) u2 u3 u4 u5') rfl ?_ rfl rfl
  show exs (cl (k + 1)) 100000 d__law_draw_poly.body (envP (R_ ns0 l0 x0 t0') none none none none none) = _
  unfold d__law_draw_poly
  rw [exs_asg (ρ' := envP s1 (some (L_ [1 + v])) none none none none) e1 rfl, exs_for (evI_rng1_ (keep_ b4' rfl) (bnd_small (by omega) (by omega))) c4.run, f4]
  exact g5
end K53

end
section
set_option Elab.async false
set_option linter.all false
set_option maxRecDepth 100000
set_option maxHeartbeats 4000000
/-! k53, texts of tuples; values bounded. -/
namespace K53
open PySem Mini
theorem shown_len {i : Int} (h : i.natAbs < 10 ^ 20) : (PyData.shown (.int i)).length ≤ 100 := by
  have h1 := int_text_length_le10 (a := i) (k := 20) (by decide) h
  have h2 : (PyData.shown (.int i)).length = (toString i).length := by
    show (Str.ofString (toString i)).length = _
    exact ofString_length _
  omega
theorem leaves_ints {p : List Int} (h : bd 1000000 p) : PyData.leavesShortAll 100 (p.map .int) = true := by
  induction p with
  | nil => rfl
  | cons a p ih =>
    have ha := h a (List.mem_cons_self ..)
    show (decide ((PyData.shown (.int a)).length ≤ 100) && PyData.leavesShortAll 100 (p.map .int)) = true
    rw [ih fun c hc => h c (List.mem_cons_of_mem _ hc), decide_eq_true (shown_len (Nat.lt_of_le_of_lt ha (by decide)))]
    rfl
theorem showable_ints {p : List Int} (h : bd 1000000 p) : PyData.showableAll (p.map .int) = true := by
  induction p with
  | nil => rfl
  | cons a p ih =>
    have ha := h a (List.mem_cons_self ..)
    show (decide (a.natAbs.log2 < 1920) && PyData.showableAll (p.map .int)) = true
    rw [ih fun c hc => h c (List.mem_cons_of_mem _ hc), decide_eq_true]
    · rfl
    · by_cases h0 : a.natAbs = 0
      · rw [h0]; decide
      · exact (Nat.log2_lt h0).mpr (Nat.lt_of_le_of_lt ha (by decide))
theorem bulk_ints (p : List Int) : PyData.bulkAll (p.map .int) = p.length := by
  induction p with
  | nil => rfl
  | cons a p ih =>
    show 0 + 1 + PyData.bulkAll (p.map .int) = _
    rw [ih, List.length_cons]
    omega
theorem shows_ints {p : List Int} (h : bd 1000000 p) (hl : p.length ≤ 5000) : shows (tI_ p) = true := by
  unfold shows
  have h1 : (tI_ p).showable = true := showable_ints h
  have h2 : (tI_ p).leavesShort 100 = true := leaves_ints h
  have h3 : (tI_ p).bulk = p.length := bulk_ints p
  rw [flat_ints, h1, h2, h3, decide_eq_true (by omega)]
  rfl
/-- a bounded polynomial's values -/
theorem val_bd {M X : Nat} {x : Int} (hx : x.natAbs ≤ X) : ∀ p : List Int, bd M p → (val x p).natAbs ≤ M * (X + 1) ^ p.length
  | [], _ => by simp [val]
  | a :: p, h => by
    have ih := val_bd hx p fun c hc => h c (List.mem_cons_of_mem _ hc)
    have ha := h a (List.mem_cons_self ..)
    have h1 : (x * val x p).natAbs ≤ X * (M * (X + 1) ^ p.length) := by rw [Int.natAbs_mul]; exact Nat.mul_le_mul hx ih
    have h2 : 1 ≤ (X + 1) ^ p.length := Nat.one_le_pow _ _ (by omega)
    have h3 : M ≤ M * (X + 1) ^ p.length := Nat.le_mul_of_pos_right _ h2
    have h4 : M * (X + 1) ^ (p.length + 1) = X * (M * (X + 1) ^ p.length) + M * (X + 1) ^ p.length := by
      rw [Nat.pow_succ, ← Nat.mul_assoc, Nat.mul_comm _ (X + 1), Nat.add_mul, Nat.one_mul]
    rw [val, List.length_cons, h4]
    omega
end K53

end
section
set_option Elab.async false
set_option linter.all false
set_option maxRecDepth 100000
set_option maxHeartbeats 4000000
/-! k53, the law: one x. -/
namespace K53
open PySem Mini
abbrev envL (S R lp : Option Sl) (a b : List Int) (lo m hi kk : Int) (su pr : List Int) (u11 u12 u13 u14 u15 u16 : Option Sl) : En :=
  [S, R, lp, some (T_ a), some (T_ b), some (I_ lo), some (I_ m), some (I_ hi), some (I_ kk), some (T_ su), some (T_ pr), u11, u12, u13, u14, u15, u16]
theorem pow_sm {x : Int} {X n : Nat} (hx : x.natAbs ≤ X) (h : X ^ n < 2 ^ 64) (hX : 1 ≤ X) : ∀ i < n, sm (x ^ i) := fun i hi => by
  show (x ^ i).natAbs < 2 ^ 64
  rw [Int.natAbs_pow]
  exact Nat.lt_of_le_of_lt (Nat.pow_le_pow_left hx i) (Nat.lt_of_le_of_lt (Nat.pow_le_pow_right hX (by omega)) h)
/-- a value asked by the law -/
theorem la_call (k : Nat) {ρ : En} {e : E} {i : Nat} {p : List Int} {x : Int} (h : rd ρ i = some (T_ p)) (he : ev (cl (k + 1)) e ρ = some (I_ x, ρ)) (hio : ∀ j, e ≠ .io j) (hx : sm x) (hp : ∀ i < p.length, sm (x ^ i)) : ev (cl (k + 1)) (.call "_law_at" (.cons (.sh i) (.cons e .nil))) ρ = some (I_ (val x p), ρ) := by
  have e0 : ev (cl (k + 1)) (.sh i) ρ = some (T_ p, ρ) := by simp only [ev, h]
  have e1 : evA (cl (k + 1)) (.cons e .nil) ρ = some (([.inl (.int x)], []), ρ) := by
    have : evA (cl (k + 1)) (.cons e .nil) ρ = (keepS (ev (cl (k + 1)) e ρ)).bind fun x => (evA (cl (k + 1)) .nil x.2).map fun q => ((.inl x.1 :: q.1.1, q.1.2), q.2) := by
      cases e <;> first | rfl | exact absurd rfl (hio _)
    rw [this, he]
    rfl
  refine ev_call_ (D := [.inl (tI_ p), .inl (.int x)]) (L := []) (ρ1 := ρ) ?_ rfl (law_at k p x hx hp) rfl rfl
  show (keepS (ev (cl (k + 1)) (.sh i) ρ)).bind (fun y => (evA (cl (k + 1)) (.cons e .nil) y.2).map fun q => ((.inl y.1 :: q.1.1, q.1.2), q.2)) = _
  rw [keep_ e0 rfl]
  show ((evA (cl (k + 1)) (.cons e .nil) ρ).map fun q => ((.inl (tI_ p) :: q.1.1, q.1.2), q.2)) = _
  rw [e1]
  rfl
theorem bd_sm {p : List Int} {x : Int} (h : bd 70000 p) (hl : p.length ≤ 8) (hx : x.natAbs ≤ 10) : sm (val x p) := by
  have h1 := val_bd hx p h
  have h2 : (10 + 1) ^ p.length ≤ 11 ^ 8 := Nat.pow_le_pow_right (by decide) hl
  have h3 : 70000 * (10 + 1) ^ p.length ≤ 70000 * 11 ^ 8 := Nat.mul_le_mul_left _ h2
  show (val x p).natAbs < 2 ^ 64
  exact Nat.lt_of_le_of_lt (Nat.le_trans h1 h3) (by decide)
theorem ne_same (ns : List Int) : cmpD .ne (lI_ ns) (lI_ ns) = some false := by
  show (if flat (lI_ ns) && flat (lI_ ns) then some (!PyData.eqvAll (ns.map .int) (ns.map .int)) else none) = _
  have hf : flat (lI_ ns) = true := flat_ints ns
  rw [hf, eqv_ints]
  simp
theorem in_step (k : Nat) (S R lp : Option Sl) (a b : List Int) (lo m hi kk x : Int) (u12 u13 u14 u15 u16 : Option Sl) (ha : bd 70000 a) (hb : bd 70000 b) (la : a.length ≤ 8) (lb : b.length ≤ 8) (hx : x.natAbs ≤ 9) :
    exs (cl (k + 3)) 100000 p_law_1 (envL S R lp a b lo m hi kk (pAdd a b) (pMul a b) (some (I_ x)) u12 u13 u14 u15 u16) =
      some (.nx (envL S R lp a b lo m hi kk (pAdd a b) (pMul a b) (some (I_ x)) u12 u13 u14 (some (L_ [val x a, val x a + val x b, val x a * val x b])) u16)) := by
  have sx : sm x := by unfold sm; omega
  have pa : ∀ i < a.length, sm (x ^ i) := fun i hi => pow_sm (X := 9) (n := 16) hx (by decide) (by decide) i (by omega)
  have pb : ∀ i < b.length, sm (x ^ i) := fun i hi => pow_sm (X := 9) (n := 16) hx (by decide) (by decide) i (by omega)
  unfold p_law_1
  generalize hρ : envL S R lp a b lo m hi kk (pAdd a b) (pMul a b) (some (I_ x)) u12 u13 u14 u15 u16 = ρ
  have v1 : ev (cl (k + 3)) (.call "_law_at" (.cons (.sh 3) (.cons (.sh 11) .nil))) ρ = some (I_ (val x a), ρ) := la_call (k + 2) (by subst hρ; rfl) (by subst hρ; rfl) (fun j h => by cases h) sx pa
  have v2 : ev (cl (k + 3)) (.call "_law_at" (.cons (.sh 4) (.cons (.sh 11) .nil))) ρ = some (I_ (val x b), ρ) := la_call (k + 2) (by subst hρ; rfl) (by subst hρ; rfl) (fun j h => by cases h) sx pb
  have v3 := bin_add v1 v2
  have v4 := bin_mul v1 v2 (mul_small (bd_sm hb lb (by omega)))
  have v5 : ev (cl (k + 3)) (.lst (.cons (.call "_law_at" (.cons (.sh 3) (.cons (.sh 11) .nil))) (.cons (.bin .add (.call "_law_at" (.cons (.sh 3) (.cons (.sh 11) .nil))) (.call "_law_at" (.cons (.sh 4) (.cons (.sh 11) .nil)))) (.cons (.bin .mul (.call "_law_at" (.cons (.sh 3) (.cons (.sh 11) .nil))) (.call "_law_at" (.cons (.sh 4) (.cons (.sh 11) .nil)))) .nil)))) ρ = some (L_ [val x a, val x a + val x b, val x a * val x b], ρ) :=
    ev_lst_ (evL_cons_ (keep_ v1 rfl) (evL_cons_ (keep_ v3 rfl) (evL_cons_ (r := .nil) (keep_ v4 rfl) rfl))) (show 3 ≤ lim by decide)
  rw [exs_asg (ρ' := envL S R lp a b lo m hi kk (pAdd a b) (pMul a b) (some (I_ x)) u12 u13 u14 (some (L_ [val x a, val x a + val x b, val x a * val x b])) u16) v5 (by subst hρ; rfl)]
  clear v1 v2 v3 v4 v5 hρ
  generalize hρ : envL S R lp a b lo m hi kk (pAdd a b) (pMul a b) (some (I_ x)) u12 u13 u14 (some (L_ [val x a, val x a + val x b, val x a * val x b])) u16 = ρ2
  have w1 : ev (cl (k + 3)) (.call "poly_at" (.cons (.sh 3) (.cons (.sh 11) .nil))) ρ2 = some (I_ (val x a), ρ2) := by
    rw [← pAt_val]
    subst hρ
    exact ev_call_ (D := [.inl (tI_ a), .inl (.int x)]) (L := []) rfl rfl (poly_at (k + 2) a x sx) rfl rfl
  have w2 : ev (cl (k + 3)) (.call "_law_at" (.cons (.sh 9) (.cons (.sh 11) .nil))) ρ2 = some (I_ (val x a + val x b), ρ2) := by
    rw [← val_pAdd]
    exact la_call (k + 2) (by subst hρ; rfl) (by subst hρ; rfl) (fun j h => by cases h) sx fun i hi => pow_sm (X := 9) (n := 16) hx (by decide) (by decide) i (by rw [pAdd_len] at hi; omega)
  have w3 : ev (cl (k + 3)) (.call "_law_at" (.cons (.sh 10) (.cons (.sh 11) .nil))) ρ2 = some (I_ (val x a * val x b), ρ2) := by
    rw [← val_pMul]
    exact la_call (k + 2) (by subst hρ; rfl) (by subst hρ; rfl) (fun j h => by cases h) sx fun i hi => pow_sm (X := 9) (n := 16) hx (by decide) (by decide) i (by rw [pMul_len] at hi; omega)
  have w4 := ev_lst_ (evL_cons_ (keep_ w1 rfl) (evL_cons_ (keep_ w2 rfl) (evL_cons_ (r := .nil) (keep_ w3 rfl) rfl))) (show 3 ≤ lim by decide)
  have w5 : ev (cl (k + 3)) (.v 15) ρ2 = some ((.bo 15, lI_ [val x a, val x a + val x b, val x a * val x b]), ρ2) := by subst hρ; rfl
  have w6 := tv_ (ev_cmp_ (o := .ne) w4 rfl w5 rfl (ne_same [val x a, val x a + val x b, val x a * val x b])) rfl rfl
  rw [exs_ifF w6 rfl]
  have dl := diff_len a
  have sl := short_le a
  have z1 : ev (cl (k + 3)) (.call "difference_of" (.cons (.sh 3) .nil)) ρ2 = some (T_ (diff a), ρ2) := by
    subst hρ
    exact ev_call_ (D := [.inl (tI_ a)]) (L := []) rfl rfl (difference_of (k + 1) a (by omega)) rfl rfl
  have z2 : ev (cl (k + 3)) (.call "_law_at" (.cons (.call "difference_of" (.cons (.sh 3) .nil)) (.cons (.sh 11) .nil))) ρ2 = some (I_ (val (x + 1) a - val x a), ρ2) := by
    rw [← val_diff]
    refine ev_call_ (D := [.inl (tI_ (diff a)), .inl (.int x)]) (L := []) (ρ1 := ρ2) ?_ rfl (law_at (k + 2) (diff a) x sx fun i hi => pow_sm (X := 9) (n := 16) hx (by decide) (by decide) i (by omega)) rfl rfl
    show (keepS (ev (cl (k + 3)) (.call "difference_of" (.cons (.sh 3) .nil)) ρ2)).bind (fun y => (evA (cl (k + 3)) (.cons (.sh 11) .nil) y.2).map fun q => ((.inl y.1 :: q.1.1, q.1.2), q.2)) = _
    rw [keep_ z1 rfl]
    subst hρ
    rfl
  have z3 : ev (cl (k + 3)) (.call "_law_at" (.cons (.sh 3) (.cons (.bin .add (.v 11) (.int 1)) .nil))) ρ2 = some (I_ (val (x + 1) a), ρ2) := la_call (k + 2) (by subst hρ; rfl) (by subst hρ; rfl) (fun j h => by cases h) (show (x + 1).natAbs < 2 ^ 64 by omega) fun i hi => pow_sm (X := 10) (n := 16) (by omega) (by decide) (by decide) i (by omega)
  have z4 : ev (cl (k + 3)) (.call "_law_at" (.cons (.sh 3) (.cons (.sh 11) .nil))) ρ2 = some (I_ (val x a), ρ2) := la_call (k + 2) (by subst hρ; rfl) (by subst hρ; rfl) (fun j h => by cases h) sx pa
  have z5 := tv_ (t := false) (ev_cmp_ (o := .ne) (z := false) z2 rfl (bin_sub z3 z4) rfl (by show some (!decide (_ = _)) = _; simp)) rfl rfl
  rw [exs_ifF z5 rfl]
  rfl
end K53

end
section
set_option Elab.async false
set_option linter.all false
set_option maxRecDepth 100000
set_option maxHeartbeats 4000000
/-! k53, the law: all x. -/
namespace K53
open PySem Mini
theorem in_loop (k : Nat) (S R lp : Option Sl) (a b : List Int) (lo m hi kk : Int) (u12 u13 u14 u16 : Option Sl) (ha : bd 70000 a) (hb : bd 70000 b) (la : a.length ≤ 8) (lb : b.length ≤ 8) : ∀ (xs : List Int) (u11 u15 : Option Sl), (∀ x ∈ xs, x.natAbs ≤ 9) → (xs ≠ [] ∨ ∃ y, u11 = some (I_ y)) →
    ∃ y u15', Runs (turnF (cl (k + 3)) 100000 (.nm 11) p_law_1) (xs.map .int) (envL S R lp a b lo m hi kk (pAdd a b) (pMul a b) u11 u12 u13 u14 u15 u16) (envL S R lp a b lo m hi kk (pAdd a b) (pMul a b) (some (I_ y)) u12 u13 u14 u15' u16)
  | [], u11, u15, _, h => by
    rcases h with h | ⟨y, rfl⟩
    · exact absurd rfl h
    · exact ⟨y, u15, .nil⟩
  | x :: xs, u11, u15, hx, _ => by
    obtain ⟨y, u15', r⟩ := in_loop k S R lp a b lo m hi kk u12 u13 u14 u16 ha hb la lb xs (some (I_ x)) (some (L_ [val x a, val x a + val x b, val x a * val x b])) (fun z hz => hx z (List.mem_cons_of_mem _ hz)) (.inr ⟨x, rfl⟩)
    exact ⟨y, u15', .cons (turn_ok rfl (in_step k S R lp a b lo m hi kk x u12 u13 u14 u15 u16 ha hb la lb (hx x (List.mem_cons_self ..)))) r⟩
end K53

end
section
set_option Elab.async false
set_option linter.all false
set_option maxRecDepth 100000
set_option maxHeartbeats 4000000
/-! k53, the law: due turns and due roots. -/
namespace K53
open PySem Mini
def keepG (f : Int → Bool) : Dt → Option Dt
  | .int x => if f x = true then some (.int x) else none
  | _ => none
theorem keepG_map (f : Int → Bool) : ∀ W : List Int, (W.map PyData.int).filterMap (keepG f) = (W.filter f).map PyData.int
  | [] => rfl
  | x :: W => by
    rw [List.map_cons, List.filterMap_cons, List.filter_cons, keepG_map f W]
    by_cases h : f x = true
    · rw [show keepG f (.int x) = some (.int x) from if_pos h, if_pos h, List.map_cons]
    · rw [show keepG f (.int x) = none from if_neg h, if_neg h]
theorem due_ev (k : Nat) (S R lp : Option Sl) (a b : List Int) (lo m hi kk : Int) (su pr : List Int) (y : Int) (u12 u13 u14 u15 u16 : Option Sl) (la : a.length ≤ 8) (h1 : -100 ≤ lo) (h2 : hi ≤ 100) (h3 : lo ≤ hi) :
    ev (cl (k + 3)) (.compIf p_law_2 (.nm 11) (.rng2 (.bin .add (.v 5) (.int 1)) (.bin .add (.v 7) (.int 1))) [11] p_law_3) (envL S R lp a b lo m hi kk su pr (some (I_ y)) u12 u13 u14 u15 u16) = some (L_ (T a lo hi), envL S R lp a b lo m hi kk su pr (some (I_ y)) u12 u13 u14 u15 u16) := by
  have hI : evI (cl (k + 3)) (.rng2 (.bin .add (.v 5) (.int 1)) (.bin .add (.v 7) (.int 1))) (envL S R lp a b lo m hi kk su pr (some (I_ y)) u12 u13 u14 u15 u16) = some ((seg lo hi).map .int, envL S R lp a b lo m hi kk su pr (some (I_ y)) u12 u13 u14 u15 u16) := by
    have e := upTo_seg (lo + 1) (hi + 1)
    rw [show lo + 1 - 1 = lo by omega, show hi + 1 - 1 = hi by omega] at e
    rw [← e]
    show (if bnd62 (lo + 1) && bnd62 (hi + 1) then some (Mini.upTo (lo + 1) 1 (hi + 1 - (lo + 1)).toNat, _) else none) = _
    rw [bnd_small (by omega) (by omega), bnd_small (by omega) (by omega)]
    rfl
  have c := ev_compIf_ (cl := cl (k + 3)) (elt := p_law_2) (c := p_law_3) (p := .nm 11) (own := [11]) (keepG (Pt a)) hI (by rw [List.length_map, seg_len]; exact Nat.le_trans (show _ ≤ 1000 by omega) (by decide)) rfl fun d hd => by
    obtain ⟨x, hx, rfl⟩ := List.mem_map.mp hd
    have hx' := mem_seg.mp hx
    refine ⟨envL S R lp a b lo m hi kk su pr (some (I_ x)) u12 u13 u14 u15 u16, envL S R lp a b lo m hi kk su pr (some (I_ x)) u12 u13 u14 u15 u16, Pt a x, rfl, ?_, ?_⟩
    · unfold p_law_3
      generalize hρ : envL S R lp a b lo m hi kk su pr (some (I_ x)) u12 u13 u14 u15 u16 = ρ
      have v1 : ev (cl (k + 3)) (.call "_law_at" (.cons (.sh 3) (.cons (.sh 11) .nil))) ρ = some (I_ (val x a), ρ) := la_call (k + 2) (by subst hρ; rfl) (by subst hρ; rfl) (fun j h => by cases h) (show x.natAbs < 2 ^ 64 by omega) fun i hi => pow_sm (X := 200) (n := 8) (by omega) (by decide) (by decide) i (by omega)
      have v2 : ev (cl (k + 3)) (.call "_law_at" (.cons (.sh 3) (.cons (.bin .sub (.v 11) (.int 1)) .nil))) ρ = some (I_ (val (x - 1) a), ρ) := la_call (k + 2) (by subst hρ; rfl) (by subst hρ; rfl) (fun j h => by cases h) (show (x - 1).natAbs < 2 ^ 64 by omega) fun i hi => pow_sm (X := 200) (n := 8) (by omega) (by decide) (by decide) i (by omega)
      have w1 := ev_cmp_ (o := .lt) (b := .int 0) (z := B a x) (q := (I_ 0, ρ)) v1 rfl rfl rfl rfl
      have w2 := ev_cmp_ (o := .lt) (b := .int 0) (z := B a (x - 1)) (q := (I_ 0, ρ)) v2 rfl rfl rfl rfl
      refine tv_ (ev_cmp_ (o := .ne) (z := Pt a x) w1 rfl w2 rfl ?_) rfl rfl
      show cmpD .ne (.bool (B a x)) (.bool (B a (x - 1))) = _
      unfold Pt
      cases B a x <;> cases B a (x - 1) <;> rfl
    · by_cases h : Pt a x = true
      · rw [if_pos h]
        exact ⟨.int x, _, if_pos h, rfl, rfl⟩
      · rw [if_neg h]
        exact ⟨if_neg h, rfl⟩
  rw [c, keepG_map]
  rfl
end K53

end
section
set_option Elab.async false
set_option linter.all false
set_option maxRecDepth 100000
set_option maxHeartbeats 4000000
/-! k53, the law: due roots. -/
namespace K53
open PySem Mini
theorem roots_ev (k : Nat) (S R lp : Option Sl) (a b : List Int) (lo m hi kk : Int) (su pr : List Int) (y : Int) (u12 u13 u14 u15 u16 : Option Sl) (la : a.length ≤ 8) (h1 : 0 ≤ m) (h2 : m ≤ 100) :
    ev (cl (k + 3)) (.compIf p_law_4 (.nm 11) (.rng2 (.bin .sub (.int 0) (.v 6)) (.bin .add (.v 6) (.int 1))) [11] p_law_5) (envL S R lp a b lo m hi kk su pr (some (I_ y)) u12 u13 u14 u15 u16) = some (L_ (zr a (-m - 1) m), envL S R lp a b lo m hi kk su pr (some (I_ y)) u12 u13 u14 u15 u16) := by
  have hI : evI (cl (k + 3)) (.rng2 (.bin .sub (.int 0) (.v 6)) (.bin .add (.v 6) (.int 1))) (envL S R lp a b lo m hi kk su pr (some (I_ y)) u12 u13 u14 u15 u16) = some ((seg (-m - 1) m).map .int, envL S R lp a b lo m hi kk su pr (some (I_ y)) u12 u13 u14 u15 u16) := by
    have e := upTo_seg (0 - m) (m + 1)
    rw [show 0 - m - 1 = -m - 1 by omega, show m + 1 - 1 = m by omega] at e
    rw [← e]
    show (if bnd62 (0 - m) && bnd62 (m + 1) then some (Mini.upTo (0 - m) 1 (m + 1 - (0 - m)).toNat, _) else none) = _
    rw [bnd_small (by omega) (by omega), bnd_small (by omega) (by omega)]
    rfl
  have c := ev_compIf_ (cl := cl (k + 3)) (elt := p_law_4) (c := p_law_5) (p := .nm 11) (own := [11]) (keepG fun x => decide (val x a = 0)) hI (by rw [List.length_map, seg_len]; exact Nat.le_trans (show _ ≤ 1000 by omega) (by decide)) rfl fun d hd => by
    obtain ⟨x, hx, rfl⟩ := List.mem_map.mp hd
    have hx' := mem_seg.mp hx
    refine ⟨envL S R lp a b lo m hi kk su pr (some (I_ x)) u12 u13 u14 u15 u16, envL S R lp a b lo m hi kk su pr (some (I_ x)) u12 u13 u14 u15 u16, decide (val x a = 0), rfl, ?_, ?_⟩
    · unfold p_law_5
      generalize hρ : envL S R lp a b lo m hi kk su pr (some (I_ x)) u12 u13 u14 u15 u16 = ρ
      have v1 : ev (cl (k + 3)) (.call "_law_at" (.cons (.sh 3) (.cons (.sh 11) .nil))) ρ = some (I_ (val x a), ρ) := la_call (k + 2) (by subst hρ; rfl) (by subst hρ; rfl) (fun j h => by cases h) (show x.natAbs < 2 ^ 64 by omega) fun i hi => pow_sm (X := 200) (n := 8) (by omega) (by decide) (by decide) i (by omega)
      exact tv_ (ev_cmp_ (o := .eq) (b := .int 0) (z := decide (val x a = 0)) (q := (I_ 0, ρ)) v1 rfl rfl rfl rfl) rfl rfl
    · by_cases h : decide (val x a = 0) = true
      · rw [if_pos h]
        exact ⟨.int x, _, if_pos h, rfl, rfl⟩
      · rw [if_neg h]
        exact ⟨if_neg h, rfl⟩
  rw [c, keepG_map]
  rfl
end K53

end
section
set_option Elab.async false
set_option linter.all false
set_option maxRecDepth 100000
set_option maxHeartbeats 4000000
/-! k53, the law's last row. -/
namespace K53
open PySem Mini
theorem last1 : T [0, 0] (0 - 3) 3 = [] := by decide +kernel
theorem last2 : diff [7] = [] := by decide +kernel
theorem last3 : zr [0, 1] (-0 - 1) 0 = [0] := by decide +kernel
theorem eq_same (ns ms : List Int) : cmpD .eq (tI_ ns) (tI_ ms) = some (decide (ns = ms)) := by
  show (if flat (tI_ ns) && flat (tI_ ms) then some (PyData.eqvAll (ns.map .int) (ms.map .int)) else none) = _
  rw [flat_ints, flat_ints, eqv_ints]
  rfl
theorem ne_tup (ns ms : List Int) : cmpD .ne (tI_ ns) (tI_ ms) = some (!decide (ns = ms)) := by
  show (if flat (tI_ ns) && flat (tI_ ms) then some (!PyData.eqvAll (ns.map .int) (ms.map .int)) else none) = _
  rw [flat_ints, flat_ints, eqv_ints]
  rfl
theorem last_row (k : Nat) (ρ : En) : ev (cl (k + 5)) (.and (.cmp .eq (.call "sign_turns" (.cons (.tup (.cons (.int 0) (.cons (.int 0) .nil))) (.cons (.bin .sub (.int 0) (.int 3)) (.cons (.int 3) .nil)))) (.tup .nil)) (.and (.cmp .eq (.call "difference_of" (.cons (.tup (.cons (.int 7) .nil)) .nil)) (.tup .nil)) (.cmp .eq (.call "whole_roots" (.cons (.tup (.cons (.int 0) (.cons (.int 1) .nil))) (.cons (.int 0) .nil))) (.tup (.cons (.int 0) .nil))))) ρ = some ((.sh, .bool true), ρ) := by
  have c1 : ev (cl (k + 5)) (.call "sign_turns" (.cons (.tup (.cons (.int 0) (.cons (.int 0) .nil))) (.cons (.bin .sub (.int 0) (.int 3)) (.cons (.int 3) .nil)))) ρ = some (T_ (T [0, 0] (0 - 3) 3), ρ) :=
    ev_call_ (D := [.inl (tI_ [0, 0]), .inl (.int (0 - 3)), .inl (.int 3)]) (L := []) rfl rfl (sign_turns (k + 1) [0, 0] (0 - 3) 3 (by decide) (by decide) (by decide) (by decide)) rfl rfl
  have c2 : ev (cl (k + 5)) (.call "difference_of" (.cons (.tup (.cons (.int 7) .nil)) .nil)) ρ = some (T_ (diff [7]), ρ) :=
    ev_call_ (D := [.inl (tI_ [7])]) (L := []) rfl rfl (difference_of (k + 3) [7] (by decide)) rfl rfl
  have c3 : ev (cl (k + 5)) (.call "whole_roots" (.cons (.tup (.cons (.int 0) (.cons (.int 1) .nil))) (.cons (.int 0) .nil))) ρ = some (T_ (zr [0, 1] (-0 - 1) 0), ρ) :=
    ev_call_ (D := [.inl (tI_ [0, 1]), .inl (.int 0)]) (L := []) rfl rfl (whole_roots k [0, 1] 0 (by decide) (by decide) (by decide)) rfl rfl
  rw [last1] at c1
  rw [last2] at c2
  rw [last3] at c3
  have d1 := ev_cmp_ (o := .eq) (b := .tup .nil) (q := (T_ [], ρ)) c1 rfl rfl rfl (eq_same [] [])
  have d2 := ev_cmp_ (o := .eq) (b := .tup .nil) (q := (T_ [], ρ)) c2 rfl rfl rfl (eq_same [] [])
  have d3 := ev_cmp_ (o := .eq) (b := .tup (.cons (.int 0) .nil)) (q := (T_ [0], ρ)) c3 rfl rfl rfl (eq_same [0] [0])
  exact ev_andT (keep_ d1 rfl) rfl (keep_ (ev_andT (keep_ d2 rfl) rfl (keep_ d3 rfl)) rfl)
end K53

end
section
set_option Elab.async false
set_option linter.all false
set_option maxRecDepth 100000
set_option maxHeartbeats 4000000
/-! k53, the law: equal texts. -/
namespace K53
open PySem Mini
theorem ne_str (x : Str) : cmpD .ne (.str x) (.str x) = some false := by
  show some (!decide (x = x)) = _
  simp
theorem repr_ev {c : CallS} {ρ ρ1 : En} {e : E} {p : List Int} (h : ev c e ρ = some (T_ p, ρ1)) (hb : bd 1000000 p) (hl : p.length ≤ 5000) : ev c (.b1 .repr e) ρ = some ((.sh, .str (tI_ p).shown), ρ1) :=
  ev_b1_ h rfl (if_pos (shows_ints hb hl))
theorem repr_same {c : CallS} {ρ ρ1 ρ2 : En} {e f : E} {p : List Int} (h1 : ev c e ρ = some (T_ p, ρ1)) (h2 : ev c f ρ1 = some (T_ p, ρ2)) (hb : bd 1000000 p) (hl : p.length ≤ 5000) : ev c (.cmp .ne (.b1 .repr e) (.b1 .repr f)) ρ = some ((.sh, .bool false), ρ2) :=
  ev_cmp_ (repr_ev h1 hb hl) rfl (repr_ev h2 hb hl) rfl (ne_str _)
end K53

end
section
set_option Elab.async false
set_option linter.all false
set_option maxRecDepth 100000
set_option maxHeartbeats 4000000
/-! k53, the law: a lap. -/
namespace K53
open PySem Mini
theorem ev_draw (k : Nat) {i : Nat} {ρ : En} {s : Sl} (hs : isR s) (h : rd ρ i = some s) :
    ∃ p s', 1 ≤ p.length ∧ p.length ≤ 8 ∧ bd 70000 p ∧ isR s' ∧ ev (cl (k + 2)) (.call "_law_draw_poly" (.cons (.io i) .nil)) ρ = some (T_ p, ρ.set i (some s')) := by
  obtain ⟨p, ns, l, x, t, h1, h2, h3, h4⟩ := draw_poly k hs
  obtain ⟨ns0, l0, x0, t0, rfl⟩ := hs
  refine ⟨p, R_ ns l x t, h1, h2, h3, ⟨_, _, _, _, rfl⟩, ?_⟩
  have ea : evA (cl (k + 2)) (.cons (.io i) .nil) ρ = some (([.inr i], [i]), ρ) := by
    show (if (rd ρ i).isSome = true then (evA (cl (k + 2)) .nil ρ).map (fun q => ((.inr i :: q.1.1, i :: q.1.2), q.2)) else none) = _
    rw [h, if_pos (show (some (R_ ns0 l0 x0 t0)).isSome = true from rfl)]
    rfl
  refine ev_call_ ea (by simp [h]) (q := (T_ p, [srcD ns l x t])) ?_ rfl ?_
  · show cl (k + 2) "_law_draw_poly" [(rd ρ i).getD (.sh, .none)] = _
    rw [h]
    exact h4
  · show (match rd ρ i with | some (fl, _) => (some ρ).map fun (ρ' : En) => ρ'.set i (some (fl, srcD ns l x t)) | none => none) = _
    rw [h]
    rfl
theorem short_bd {M : Nat} {p : List Int} (h : bd M p) : bd M (short p) := fun c hc => h c (List.mem_of_mem_take hc)
theorem times_bd {p : List Int} {m : Int} (h : bd 70000 p) (hm : m.natAbs ≤ 4) : bd 1000000 (p.map fun a => m * a) := by
  intro c hc
  obtain ⟨a, ha, rfl⟩ := List.mem_map.mp hc
  have := h a ha
  have e : (m * a).natAbs = m.natAbs * a.natAbs := Int.natAbs_mul ..
  have : m.natAbs * a.natAbs ≤ 4 * 70000 := Nat.mul_le_mul hm this
  show (m * a).natAbs ≤ 1000000
  omega
theorem T_bd {p : List Int} {l r : Int} (h1 : -1000 ≤ l) (h2 : r ≤ 1000) : bd 1000000 (T p l r) := by
  intro c hc
  have := mem_seg.mp (List.mem_filter.mp hc).1
  show c.natAbs ≤ 1000000
  omega
theorem zr_bd {p : List Int} {l r : Int} (h1 : -1000 ≤ l) (h2 : r ≤ 1000) : bd 1000000 (zr p l r) := by
  intro c hc
  have := mem_seg.mp (List.mem_filter.mp hc).1
  show c.natAbs ≤ 1000000
  omega
theorem comp_times (c : CallS) (k1 : Int) (a : List Int) (hl : a.length ≤ 8) (hk : sm k1) (S R lp u4 u5 u6 u7 u9 u10 u11 u12 u13 u14 u15 : Option Sl) :
    ev c (.comp p_law_0 (.nm 16) (.e (.sh 3)) [16]) [S, R, lp, some (T_ a), u4, u5, u6, u7, some (I_ k1), u9, u10, u11, u12, u13, u14, u15, none] =
      some (L_ (a.map fun x => k1 * x), [S, R, lp, some (T_ a), u4, u5, u6, u7, some (I_ k1), u9, u10, u11, u12, u13, u14, u15, none]) := by
  have h := ev_comp_ (cl := c) (ρ := [S, R, lp, some (T_ a), u4, u5, u6, u7, some (I_ k1), u9, u10, u11, u12, u13, u14, u15, none]) (ρ1 := [S, R, lp, some (T_ a), u4, u5, u6, u7, some (I_ k1), u9, u10, u11, u12, u13, u14, u15, none]) (elt := p_law_0) (p := .nm 16) (it := .e (.sh 3)) (own := [16]) (ds := a.map .int) (mulG k1) rfl
    (by rw [List.length_map]; exact Nat.le_trans hl (by decide)) rfl fun d hd => by
      obtain ⟨x, _, rfl⟩ := List.mem_map.mp hd
      exact ⟨[S, R, lp, some (T_ a), u4, u5, u6, u7, some (I_ k1), u9, u10, u11, u12, u13, u14, u15, some (I_ x)], [S, R, lp, some (T_ a), u4, u5, u6, u7, some (I_ k1), u9, u10, u11, u12, u13, u14, u15, some (I_ x)], rfl, keep_ (bin_mul rfl rfl (mul_small' hk)) rfl, rfl⟩
  rw [h, mulG_map]
  rfl
theorem evI_rng2_ {c : CallS} {ρ ρ1 ρ2 : En} {a b : E} {i j : Int} (h1 : keepS (ev c a ρ) = some (.int i, ρ1)) (h2 : keepS (ev c b ρ1) = some (.int j, ρ2)) (h3 : (bnd62 i && bnd62 j) = true) : evI c (.rng2 a b) ρ = some (Mini.upTo i 1 (j - i).toNat, ρ2) := by
  simp only [evI, h1, Option.bind_some, h2, h3, if_true]
theorem len_ne {c : CallS} {ρ ρ1 ρ2 : En} {a b : E} {i : Int} (h1 : ev c a ρ = some (I_ i, ρ1)) (h2 : ev c b ρ1 = some (I_ i, ρ2)) : ev c (.cmp .ne a b) ρ = some ((.sh, .bool false), ρ2) :=
  ev_cmp_ (o := .ne) h1 rfl h2 rfl (by show some (!decide (i = i)) = _; simp)
/-- the laps' slots -/
abbrev envU (S : Option Sl) (s lp : Option Sl) (u3 u4 u5 u6 u7 u8 u9 u10 u11 u12 u13 u14 u15 : Option Sl) : En := [S, s, lp, u3, u4, u5, u6, u7, u8, u9, u10, u11, u12, u13, u14, u15, none]
theorem lap (k : Nat) (S lp : Option Sl) {s : Sl} (hs : isR s) (u3 u4 u5 u6 u7 u8 u9 u10 u11 u12 u13 u14 u15 : Option Sl) : ∃ s' v3 v4 v5 v6 v7 v8 v9 v10 v11 v12 v13 v14 v15, isR s' ∧
    exs (cl (k + 5)) 100000 p_law_6 (envU S (some s) lp u3 u4 u5 u6 u7 u8 u9 u10 u11 u12 u13 u14 u15) = some (.nx (envU S (some s') lp v3 v4 v5 v6 v7 v8 v9 v10 v11 v12 v13 v14 v15)) := by
  obtain ⟨a, s1, a1, a2, a3, a4, a5⟩ := ev_draw (k + 3) (i := 1) (ρ := envU S (some s) lp u3 u4 u5 u6 u7 u8 u9 u10 u11 u12 u13 u14 u15) hs rfl
  have a5' : ev (cl (k + 5)) (.call "_law_draw_poly" (.cons (.io 1) .nil)) (envU S (some s) lp u3 u4 u5 u6 u7 u8 u9 u10 u11 u12 u13 u14 u15) = some (T_ a, envU S (some s1) lp u3 u4 u5 u6 u7 u8 u9 u10 u11 u12 u13 u14 u15) := a5
  obtain ⟨b, s2, b1, b2, b3, b4, b5⟩ := ev_draw (k + 3) (i := 1) (ρ := envU S (some s1) lp u3 u4 u5 u6 u7 u8 u9 u10 u11 u12 u13 u14 u15) a4 rfl
  have b5' : ev (cl (k + 5)) (.call "_law_draw_poly" (.cons (.io 1) .nil)) (envU S (some s1) lp u3 u4 u5 u6 u7 u8 u9 u10 u11 u12 u13 u14 u15) = some (T_ b, envU S (some s2) lp u3 u4 u5 u6 u7 u8 u9 u10 u11 u12 u13 u14 u15) := b5
  have c0 := ev_tup_ (evL_cons_ (keep_ a5' rfl) (evL_cons_ (r := .nil) (keep_ b5' rfl) rfl)) (show 2 ≤ lim by decide)
  clear a5 b5
  unfold p_law_6
  rw [exs_asg (ρ' := envU S (some s2) lp (some (T_ a)) (some (T_ b)) u5 u6 u7 u8 u9 u10 u11 u12 u13 u14 u15) c0 rfl]
  clear c0 a5' b5'
  -- the bounds
  obtain ⟨v, s3, c1, c2, c3, c4⟩ := ev_pick (k + 4) (i := 1) (e := .int 20) (ρ := envU S (some s2) lp (some (T_ a)) (some (T_ b)) u5 u6 u7 u8 u9 u10 u11 u12 u13 u14 u15) (most := 20) b4 rfl (fun _ => rfl) (fun j h => by cases h) (by decide) (by decide)
  have c4' : ev (cl (k + 5)) (.call "_law_pick" (.cons (.io 1) (.cons (.int 20) .nil))) (envU S (some s2) lp (some (T_ a)) (some (T_ b)) u5 u6 u7 u8 u9 u10 u11 u12 u13 u14 u15) = some (I_ v, envU S (some s3) lp (some (T_ a)) (some (T_ b)) u5 u6 u7 u8 u9 u10 u11 u12 u13 u14 u15) := c4
  obtain ⟨m, s4, d1, d2, d3, d4⟩ := ev_pick (k + 4) (i := 1) (e := .int 15) (ρ := envU S (some s3) lp (some (T_ a)) (some (T_ b)) u5 u6 u7 u8 u9 u10 u11 u12 u13 u14 u15) (most := 15) c3 rfl (fun _ => rfl) (fun j h => by cases h) (by decide) (by decide)
  have d4' : ev (cl (k + 5)) (.call "_law_pick" (.cons (.io 1) (.cons (.int 15) .nil))) (envU S (some s3) lp (some (T_ a)) (some (T_ b)) u5 u6 u7 u8 u9 u10 u11 u12 u13 u14 u15) = some (I_ m, envU S (some s4) lp (some (T_ a)) (some (T_ b)) u5 u6 u7 u8 u9 u10 u11 u12 u13 u14 u15) := d4
  have e0 := evP_cons_ (bin_sub (a := .bin .sub (.int 0) (.int 1)) (i := 0 - 1) (ρ := envU S (some s2) lp (some (T_ a)) (some (T_ b)) u5 u6 u7 u8 u9 u10 u11 u12 u13 u14 u15) rfl c4') rfl (evP_cons_ (r := .nil) d4' rfl rfl)
  clear c4 d4
  generalize hlo : (0 - 1 - v : Int) = lo at e0
  rw [exs_par (ρ' := envU S (some s4) lp (some (T_ a)) (some (T_ b)) (some (I_ lo)) (some (I_ m)) u7 u8 u9 u10 u11 u12 u13 u14 u15) e0 rfl]
  clear e0 c4' d4'
  obtain ⟨w, s5, e1, e2, e3, e4⟩ := ev_pick (k + 4) (i := 1) (e := .int 40) (ρ := envU S (some s4) lp (some (T_ a)) (some (T_ b)) (some (I_ lo)) (some (I_ m)) u7 u8 u9 u10 u11 u12 u13 u14 u15) (most := 40) d3 rfl (fun _ => rfl) (fun j h => by cases h) (by decide) (by decide)
  have e4' : ev (cl (k + 5)) (.call "_law_pick" (.cons (.io 1) (.cons (.int 40) .nil))) (envU S (some s4) lp (some (T_ a)) (some (T_ b)) (some (I_ lo)) (some (I_ m)) u7 u8 u9 u10 u11 u12 u13 u14 u15) = some (I_ w, envU S (some s5) lp (some (T_ a)) (some (T_ b)) (some (I_ lo)) (some (I_ m)) u7 u8 u9 u10 u11 u12 u13 u14 u15) := e4
  obtain ⟨y, s6, f1, f2, f3, f4⟩ := ev_pick (k + 4) (i := 1) (e := .int 9) (ρ := envU S (some s5) lp (some (T_ a)) (some (T_ b)) (some (I_ lo)) (some (I_ m)) u7 u8 u9 u10 u11 u12 u13 u14 u15) (most := 9) e3 rfl (fun _ => rfl) (fun j h => by cases h) (by decide) (by decide)
  have f4' : ev (cl (k + 5)) (.call "_law_pick" (.cons (.io 1) (.cons (.int 9) .nil))) (envU S (some s5) lp (some (T_ a)) (some (T_ b)) (some (I_ lo)) (some (I_ m)) u7 u8 u9 u10 u11 u12 u13 u14 u15) = some (I_ y, envU S (some s6) lp (some (T_ a)) (some (T_ b)) (some (I_ lo)) (some (I_ m)) u7 u8 u9 u10 u11 u12 u13 u14 u15) := f4
  have g0 := ev_tup_ (evL_cons_ (keep_ (bin_add (a := .bin .add (.v 5) (.int 1)) (i := lo + 1) (ρ := envU S (some s4) lp (some (T_ a)) (some (T_ b)) (some (I_ lo)) (some (I_ m)) u7 u8 u9 u10 u11 u12 u13 u14 u15) rfl e4') rfl) (evL_cons_ (r := .nil) (keep_ (bin_sub (b := .int 4) (j := 4) f4' rfl) rfl) rfl)) (show 2 ≤ lim by decide)
  clear e4 f4
  generalize hhi : lo + 1 + w = hi at g0
  generalize hk1 : y - 4 = k1 at g0
  rw [exs_asg (ρ' := envU S (some s6) lp (some (T_ a)) (some (T_ b)) (some (I_ lo)) (some (I_ m)) (some (I_ hi)) (some (I_ k1)) u9 u10 u11 u12 u13 u14 u15) g0 rfl]
  clear g0 e4' f4'
  -- sums and product
  have p1 : ev (cl (k + 5)) (.call "poly_sum" (.cons (.sh 3) (.cons (.sh 4) .nil))) (envU S (some s6) lp (some (T_ a)) (some (T_ b)) (some (I_ lo)) (some (I_ m)) (some (I_ hi)) (some (I_ k1)) u9 u10 u11 u12 u13 u14 u15) = some (T_ (pAdd a b), envU S (some s6) lp (some (T_ a)) (some (T_ b)) (some (I_ lo)) (some (I_ m)) (some (I_ hi)) (some (I_ k1)) u9 u10 u11 u12 u13 u14 u15) :=
    ev_call_ (D := [.inl (tI_ a), .inl (tI_ b)]) (L := []) rfl rfl (poly_sum (k + 4) a b (by omega) (by omega)) rfl rfl
  have p2 : ev (cl (k + 5)) (.call "poly_product" (.cons (.sh 3) (.cons (.sh 4) .nil))) (envU S (some s6) lp (some (T_ a)) (some (T_ b)) (some (I_ lo)) (some (I_ m)) (some (I_ hi)) (some (I_ k1)) u9 u10 u11 u12 u13 u14 u15) = some (T_ (pMul a b), envU S (some s6) lp (some (T_ a)) (some (T_ b)) (some (I_ lo)) (some (I_ m)) (some (I_ hi)) (some (I_ k1)) u9 u10 u11 u12 u13 u14 u15) :=
    ev_call_ (D := [.inl (tI_ a), .inl (tI_ b)]) (L := []) rfl rfl (poly_product (k + 4) a b (by omega) (by omega) fun x hx z _ => mul_small' (Nat.lt_of_le_of_lt (a3 x hx) (by decide))) rfl rfl
  rw [exs_par (ρ' := envU S (some s6) lp (some (T_ a)) (some (T_ b)) (some (I_ lo)) (some (I_ m)) (some (I_ hi)) (some (I_ k1)) (some (T_ (pAdd a b))) (some (T_ (pMul a b))) u11 u12 u13 u14 u15) (evP_cons_ p1 rfl (evP_cons_ (r := .nil) p2 rfl rfl)) rfl]
  clear p1 p2
  -- the lengths
  generalize hρ : envU S (some s6) lp (some (T_ a)) (some (T_ b)) (some (I_ lo)) (some (I_ m)) (some (I_ hi)) (some (I_ k1)) (some (T_ (pAdd a b))) (some (T_ (pMul a b))) u11 u12 u13 u14 u15 = ρ
  have l3 : ev (cl (k + 5)) (.b1 .len (.v 3)) ρ = some (I_ (a.length : Nat), ρ) := by
    subst hρ
    exact ev_b1_ (r := (T_ a, _)) rfl rfl (by show some (Fl.sh, PyData.int ((a.map PyData.int).length : Nat)) = _; rw [List.length_map])
  have l4 : ev (cl (k + 5)) (.b1 .len (.v 4)) ρ = some (I_ (b.length : Nat), ρ) := by
    subst hρ
    exact ev_b1_ (r := (T_ b, _)) rfl rfl (by show some (Fl.sh, PyData.int ((b.map PyData.int).length : Nat)) = _; rw [List.length_map])
  have l9 : ev (cl (k + 5)) (.b1 .len (.v 9)) ρ = some (I_ (max a.length b.length : Nat), ρ) := by
    subst hρ
    exact ev_b1_ (r := (T_ (pAdd a b), _)) rfl rfl (by show some (Fl.sh, PyData.int (((pAdd a b).map PyData.int).length : Nat)) = _; rw [List.length_map, pAdd_len])
  have l10 : ev (cl (k + 5)) (.b1 .len (.v 10)) ρ = some (I_ ((a.length : Int) + b.length - 1), ρ) := by
    subst hρ
    refine ev_b1_ (r := (T_ (pMul a b), _)) rfl rfl ?_
    show some (Fl.sh, PyData.int (((pMul a b).map PyData.int).length : Nat)) = _
    rw [List.length_map, pMul_len, show ((a.length + b.length - 1 : Nat) : Int) = (a.length : Int) + b.length - 1 by omega]
  have q1 : ev (cl (k + 5)) (.cmp .ne (.b1 .len (.v 9)) (.b2 .max (.b1 .len (.v 3)) (.b1 .len (.v 4)))) ρ = some ((.sh, .bool false), ρ) := by
    refine len_ne l9 (ev_b2_ (keep_ l3 rfl) (keep_ l4 rfl) ?_)
    show some (Fl.sh, PyData.int (if (b.length : Int) > (a.length : Int) then (b.length : Int) else (a.length : Int))) = _
    rw [show (if (b.length : Int) > (a.length : Int) then (b.length : Int) else (a.length : Int)) = ((max a.length b.length : Nat) : Int) by split <;> omega]
  have q2 : ev (cl (k + 5)) (.cmp .ne (.b1 .len (.v 10)) (.bin .sub (.bin .add (.b1 .len (.v 3)) (.b1 .len (.v 4))) (.int 1))) ρ = some ((.sh, .bool false), ρ) :=
    len_ne l10 (bin_sub (b := .int 1) (j := 1) (bin_add l3 l4) rfl)
  rw [exs_ifF (ρ1 := ρ) (tv_ (t := false) (ev_orF (keep_ q1 rfl) rfl (keep_ q2 rfl)) rfl rfl) rfl]
  clear q1 q2 l3 l4 l9 l10
  -- the texts
  have r1 : ev (cl (k + 5)) (.call "without_noughts" (.cons (.sh 3) .nil)) ρ = some (T_ (short a), ρ) := by
    subst hρ
    exact ev_call_ (D := [.inl (tI_ a)]) (L := []) rfl rfl (without_noughts (k + 4) a (by omega)) rfl rfl
  have r2 : ev (cl (k + 5)) (.call "_law_short" (.cons (.sh 3) .nil)) ρ = some (T_ (short a), ρ) := by
    subst hρ
    exact ev_call_ (D := [.inl (tI_ a)]) (L := []) rfl rfl (law_short (k + 4) a (by omega)) rfl rfl
  have hsl := short_le a
  have ha6 : bd 1000000 a := bd_mono a3 (by decide)
  have r3 := repr_same r1 r2 (short_bd ha6) (by omega)
  have hk4 : k1.natAbs ≤ 4 := by omega
  have r4 : ev (cl (k + 5)) (.call "poly_times" (.cons (.sh 3) (.cons (.sh 8) .nil))) ρ = some (T_ (a.map fun x => k1 * x), ρ) := by
    subst hρ
    exact ev_call_ (D := [.inl (tI_ a), .inl (.int k1)]) (L := []) rfl rfl (poly_times (k + 4) a k1 (show k1.natAbs < 2 ^ 64 by omega) (by omega)) rfl rfl
  have r5 : ev (cl (k + 5)) (.b1 .tuple (.comp p_law_0 (.nm 16) (.e (.sh 3)) [16])) ρ = some (T_ (a.map fun x => k1 * x), ρ) := by
    subst hρ
    exact ev_b1_ (r := (L_ (a.map fun x => k1 * x), _)) (comp_times (cl (k + 5)) k1 a a2 (show k1.natAbs < 2 ^ 64 by omega) ..) rfl rfl
  have r6 := repr_same r4 r5 (times_bd a3 hk4) (by rw [List.length_map]; omega)
  rw [exs_ifF (ρ1 := ρ) (tv_ (t := false) (ev_orF (keep_ r3 rfl) rfl (keep_ r6 rfl)) rfl rfl) rfl]
  clear r3 r4 r5 r6
  subst hρ
  -- all x
  have hu : Mini.upTo (0 - 9) 1 (10 - (0 - 9) : Int).toNat = (seg (0 - 9 - 1) (10 - 1)).map PyData.int := upTo_seg (0 - 9) 10
  obtain ⟨y11, w15, runs⟩ := in_loop (k + 2) S (some s6) lp a b lo m hi k1 u12 u13 u14 none a3 b3 a2 b2 (seg (0 - 9 - 1) (10 - 1)) u11 u15 (fun x hx => by have := mem_seg.mp hx; omega) (.inl (by decide))
  have i1 : evI (cl (k + 5)) (.rng2 (.bin .sub (.int 0) (.int 9)) (.int 10)) (envU S (some s6) lp (some (T_ a)) (some (T_ b)) (some (I_ lo)) (some (I_ m)) (some (I_ hi)) (some (I_ k1)) (some (T_ (pAdd a b))) (some (T_ (pMul a b))) u11 u12 u13 u14 u15) = some ((seg (0 - 9 - 1) (10 - 1)).map PyData.int, envU S (some s6) lp (some (T_ a)) (some (T_ b)) (some (I_ lo)) (some (I_ m)) (some (I_ hi)) (some (I_ k1)) (some (T_ (pAdd a b))) (some (T_ (pMul a b))) u11 u12 u13 u14 u15) := by
    rw [← hu]
    exact evI_rng2_ (i := 0 - 9) (j := 10) rfl rfl rfl
  rw [exs_for (ρ' := envU S (some s6) lp (some (T_ a)) (some (T_ b)) (some (I_ lo)) (some (I_ m)) (some (I_ hi)) (some (I_ k1)) (some (T_ (pAdd a b))) (some (T_ (pMul a b))) (some (I_ y11)) u12 u13 u14 w15) i1 runs.run]
  clear runs i1 hu
  -- the step
  have t1 : ev (cl (k + 5)) (.call "difference_of" (.cons (.sh 3) .nil)) (envU S (some s6) lp (some (T_ a)) (some (T_ b)) (some (I_ lo)) (some (I_ m)) (some (I_ hi)) (some (I_ k1)) (some (T_ (pAdd a b))) (some (T_ (pMul a b))) (some (I_ y11)) u12 u13 u14 w15) = some (T_ (diff a), envU S (some s6) lp (some (T_ a)) (some (T_ b)) (some (I_ lo)) (some (I_ m)) (some (I_ hi)) (some (I_ k1)) (some (T_ (pAdd a b))) (some (T_ (pMul a b))) (some (I_ y11)) u12 u13 u14 w15) :=
    ev_call_ (D := [.inl (tI_ a)]) (L := []) rfl rfl (difference_of (k + 3) a (by omega)) rfl rfl
  rw [exs_asg (ρ' := envU S (some s6) lp (some (T_ a)) (some (T_ b)) (some (I_ lo)) (some (I_ m)) (some (I_ hi)) (some (I_ k1)) (some (T_ (pAdd a b))) (some (T_ (pMul a b))) (some (I_ y11)) (some (T_ (diff a))) u13 u14 w15) t1 rfl]
  clear t1
  generalize hρ : envU S (some s6) lp (some (T_ a)) (some (T_ b)) (some (I_ lo)) (some (I_ m)) (some (I_ hi)) (some (I_ k1)) (some (T_ (pAdd a b))) (some (T_ (pMul a b))) (some (I_ y11)) (some (T_ (diff a))) u13 u14 w15 = ρ
  have dl := diff_len a
  have z1 : ev (cl (k + 5)) (.v 12) ρ = some (T_ (diff a), ρ) := by subst hρ; rfl
  have z2 : ev (cl (k + 5)) (.call "_law_short" (.cons (.sh 12) .nil)) ρ = some (T_ (diff a), ρ) := by
    have e := law_short (k + 4) (diff a) (by omega)
    rw [diff_short] at e
    subst hρ
    exact ev_call_ (D := [.inl (tI_ (diff a))]) (L := []) rfl rfl e rfl rfl
  have z3 : ev (cl (k + 5)) (.cmp .ne (.v 12) (.call "_law_short" (.cons (.sh 12) .nil))) ρ = some ((.sh, .bool false), ρ) := ev_cmp_ (o := .ne) z1 rfl z2 rfl (by rw [ne_tup]; simp)
  have z4 : ev (cl (k + 5)) (.b1 .len (.v 12)) ρ = some (I_ (diff a).length, ρ) :=
    ev_b1_ (r := (T_ (diff a), _)) z1 rfl (by show some (Fl.sh, PyData.int (((diff a).map PyData.int).length : Nat)) = _; rw [List.length_map])
  have z5 : ev (cl (k + 5)) (.call "_law_short" (.cons (.sh 3) .nil)) ρ = some (T_ (short a), ρ) := by
    subst hρ
    exact ev_call_ (D := [.inl (tI_ a)]) (L := []) rfl rfl (law_short (k + 4) a (by omega)) rfl rfl
  have z6 : ev (cl (k + 5)) (.b1 .len (.call "_law_short" (.cons (.sh 3) .nil))) ρ = some (I_ (short a).length, ρ) :=
    ev_b1_ (r := (T_ (short a), _)) z5 rfl (by show some (Fl.sh, PyData.int (((short a).map PyData.int).length : Nat)) = _; rw [List.length_map])
  have z7 : ev (cl (k + 5)) (.cmp .ne (.b1 .len (.v 12)) (.b2 .max (.int 0) (.bin .sub (.b1 .len (.call "_law_short" (.cons (.sh 3) .nil))) (.int 1)))) ρ = some ((.sh, .bool false), ρ) := by
    refine len_ne z4 (ev_b2_ (a := .int 0) (x := .int 0) (ρ1 := ρ) rfl (keep_ (bin_sub (b := .int 1) (j := 1) z6 rfl) rfl) ?_)
    show some (Fl.sh, PyData.int (if ((short a).length : Int) - 1 > 0 then ((short a).length : Int) - 1 else 0)) = _
    rw [show (if ((short a).length : Int) - 1 > 0 then ((short a).length : Int) - 1 else 0) = ((diff a).length : Int) by rw [dl]; split <;> omega]
  rw [exs_ifF (ρ1 := ρ) (tv_ (t := false) (ev_orF (keep_ z3 rfl) rfl (keep_ z7 rfl)) rfl rfl) rfl]
  clear z1 z2 z3 z4 z5 z6 z7
  subst hρ
  -- the turns
  have hlo1 : -1000 ≤ lo := by omega
  have hhi1 : hi ≤ 1000 := by omega
  have hlh : lo ≤ hi := by omega
  rw [exs_asg (ρ' := envU S (some s6) lp (some (T_ a)) (some (T_ b)) (some (I_ lo)) (some (I_ m)) (some (I_ hi)) (some (I_ k1)) (some (T_ (pAdd a b))) (some (T_ (pMul a b))) (some (I_ y11)) (some (T_ (diff a))) (some (L_ (T a lo hi))) u14 w15) (due_ev (k + 2) S (some s6) lp a b lo m hi k1 (pAdd a b) (pMul a b) y11 (some (T_ (diff a))) u13 u14 w15 none a2 (by omega) (by omega) hlh) rfl]
  generalize hρ : envU S (some s6) lp (some (T_ a)) (some (T_ b)) (some (I_ lo)) (some (I_ m)) (some (I_ hi)) (some (I_ k1)) (some (T_ (pAdd a b))) (some (T_ (pMul a b))) (some (I_ y11)) (some (T_ (diff a))) (some (L_ (T a lo hi))) u14 w15 = ρ
  have x1 : ev (cl (k + 5)) (.call "sign_turns" (.cons (.sh 3) (.cons (.sh 5) (.cons (.sh 7) .nil)))) ρ = some (T_ (T a lo hi), ρ) := by
    subst hρ
    exact ev_call_ (D := [.inl (tI_ a), .inl (.int lo), .inl (.int hi)]) (L := []) rfl rfl (sign_turns (k + 1) a lo hi (by omega) hlo1 hhi1 hlh) rfl rfl
  have x2 : ev (cl (k + 5)) (.b1 .tuple (.v 13)) ρ = some (T_ (T a lo hi), ρ) := by subst hρ; rfl
  have tl := T_len a lo hi
  rw [exs_ifF (ρ1 := ρ) (tv_ (t := false) (repr_same x1 x2 (T_bd hlo1 hhi1) (by omega)) rfl rfl) rfl]
  clear x1 x2
  subst hρ
  -- the roots
  rw [exs_asg (ρ' := envU S (some s6) lp (some (T_ a)) (some (T_ b)) (some (I_ lo)) (some (I_ m)) (some (I_ hi)) (some (I_ k1)) (some (T_ (pAdd a b))) (some (T_ (pMul a b))) (some (I_ y11)) (some (T_ (diff a))) (some (L_ (T a lo hi))) (some (L_ (zr a (-m - 1) m))) w15) (roots_ev (k + 2) S (some s6) lp a b lo m hi k1 (pAdd a b) (pMul a b) y11 (some (T_ (diff a))) (some (L_ (T a lo hi))) u14 w15 none a2 d1 (by omega)) rfl]
  generalize hρ : envU S (some s6) lp (some (T_ a)) (some (T_ b)) (some (I_ lo)) (some (I_ m)) (some (I_ hi)) (some (I_ k1)) (some (T_ (pAdd a b))) (some (T_ (pMul a b))) (some (I_ y11)) (some (T_ (diff a))) (some (L_ (T a lo hi))) (some (L_ (zr a (-m - 1) m))) w15 = ρ
  have y1 : ev (cl (k + 5)) (.call "_law_short" (.cons (.sh 3) .nil)) ρ = some (T_ (short a), ρ) := by
    subst hρ
    exact ev_call_ (D := [.inl (tI_ a)]) (L := []) rfl rfl (law_short (k + 4) a (by omega)) rfl rfl
  have y2 : ev (cl (k + 5)) (.call "whole_roots" (.cons (.sh 3) (.cons (.sh 6) .nil))) ρ = some (T_ (zr a (-m - 1) m), ρ) := by
    subst hρ
    exact ev_call_ (D := [.inl (tI_ a), .inl (.int m)]) (L := []) rfl rfl (whole_roots k a m (by omega) d1 (by omega)) rfl rfl
  have y3 : ev (cl (k + 5)) (.b1 .tuple (.v 14)) ρ = some (T_ (zr a (-m - 1) m), ρ) := by subst hρ; rfl
  have zl := zr_len a (-m - 1) m
  have y4 := repr_same y2 y3 (zr_bd (by omega) (by omega)) (by omega)
  have y5 : ev (cl (k + 5)) (.cmp .ne (.call "_law_short" (.cons (.sh 3) .nil)) (.tup .nil)) ρ = some ((.sh, .bool (!decide (short a = []))), ρ) := ev_cmp_ (o := .ne) (q := (T_ [], ρ)) y1 rfl rfl rfl (ne_tup (short a) [])
  have y6 : ∃ t : Bool, ev (cl (k + 5)) (.and (.cmp .ne (.call "_law_short" (.cons (.sh 3) .nil)) (.tup .nil)) (.cmp .ne (.b1 .repr (.call "whole_roots" (.cons (.sh 3) (.cons (.sh 6) .nil)))) (.b1 .repr (.b1 .tuple (.v 14))))) ρ = some ((.sh, .bool false), ρ) := by
    refine ⟨true, ?_⟩
    cases hb : !decide (short a = []) with
    | true => rw [hb] at y5; exact ev_andT (keep_ y5 rfl) rfl (keep_ y4 rfl)
    | false => rw [hb] at y5; exact ev_andF (keep_ y5 rfl) rfl
  obtain ⟨_, y6⟩ := y6
  rw [exs_ifF (ρ1 := ρ) (tv_ (t := false) y6 rfl rfl) rfl]
  subst hρ
  exact ⟨s6, _, _, _, _, _, _, _, _, _, _, _, _, _, f3, rfl⟩
end K53

end
section
set_option Elab.async false
set_option linter.all false
set_option maxRecDepth 100000
set_option maxHeartbeats 4000000
/-! k53, the law. -/
namespace K53
open PySem Mini
theorem laps (k : Nat) (S : Option Sl) : ∀ (ds : List Dt) {s : Sl} (hs : isR s) (lp u3 u4 u5 u6 u7 u8 u9 u10 u11 u12 u13 u14 u15 : Option Sl), ∃ s' lp' v3 v4 v5 v6 v7 v8 v9 v10 v11 v12 v13 v14 v15,
    Runs (turnF (cl (k + 5)) 100000 (.nm 2) p_law_6) ds (envU S (some s) lp u3 u4 u5 u6 u7 u8 u9 u10 u11 u12 u13 u14 u15) (envU S (some s') lp' v3 v4 v5 v6 v7 v8 v9 v10 v11 v12 v13 v14 v15)
  | [], s, _, lp, u3, u4, u5, u6, u7, u8, u9, u10, u11, u12, u13, u14, u15 => ⟨s, lp, u3, u4, u5, u6, u7, u8, u9, u10, u11, u12, u13, u14, u15, .nil⟩
  | d :: ds, s, hs, lp, u3, u4, u5, u6, u7, u8, u9, u10, u11, u12, u13, u14, u15 => by
    obtain ⟨s1, v3, v4, v5, v6, v7, v8, v9, v10, v11, v12, v13, v14, v15, hs1, h⟩ := lap k S (some (.sh, d)) hs u3 u4 u5 u6 u7 u8 u9 u10 u11 u12 u13 u14 u15
    obtain ⟨s', lp', w3, w4, w5, w6, w7, w8, w9, w10, w11, w12, w13, w14, w15, r⟩ := laps k S ds hs1 (some (.sh, d)) v3 v4 v5 v6 v7 v8 v9 v10 v11 v12 v13 v14 v15
    exact ⟨s', lp', w3, w4, w5, w6, w7, w8, w9, w10, w11, w12, w13, w14, w15, .cons (turn_ok rfl h) r⟩
theorem law_holds (ns : List Int) (hn : ns.length ≤ 63) : ∃ os, cl 8 "law" [(.src, lI_ ns)] = some ((.sh, .bool true), os) := by
  obtain ⟨cs, s, h⟩ := open_cells 6 ns hn
  have e1 : ev (cl 7) (.call "_law_open_cells" (.cons (.io 0) .nil)) [some (.src, lI_ ns), none, none, none, none, none, none, none, none, none, none, none, none, none, none, none, none] = some (R_ cs 1 s 0, [some (.src, lI_ ns), none, none, none, none, none, none, none, none, none, none, none, none, none, none, none, none]) :=
    ev_call_ (D := [.inr 0]) (L := [0]) rfl rfl (q := (R_ cs 1 s 0, [lI_ ns])) h rfl rfl
  obtain ⟨s', lp', w3, w4, w5, w6, w7, w8, w9, w10, w11, w12, w13, w14, w15, r⟩ := laps 2 (some (.src, lI_ ns)) (Mini.upTo 0 1 (4 : Int).toNat) (s := R_ cs 1 s 0) ⟨_, _, _, _, rfl⟩ none none none none none none none none none none none none none none
  refine ⟨[lI_ ns], ?_⟩
  show runDef (cl 7) 100000 1 17 d_law.body [(.src, lI_ ns)] = _
  refine run_rt (ρ' := envU (some (.src, lI_ ns)) (some s') lp' w3 w4 w5 w6 w7 w8 w9 w10 w11 w12 w13 w14 w15) rfl ?_ rfl rfl
  show exs (cl 7) 100000 d_law.body [some (.src, lI_ ns), none, none, none, none, none, none, none, none, none, none, none, none, none, none, none, none] = _
  unfold d_law
  rw [exs_asg (ρ' := envU (some (.src, lI_ ns)) (some (R_ cs 1 s 0)) none none none none none none none none none none none none none none) e1 rfl,
    exs_for (evI_rng1_ (i := 4) rfl rfl) r.run, exs_ret (last_row 2 _) rfl]
end K53
theorem PySem.Challenge.cw_leastwholes_k53_whole_polynomials_and_ro_holds : PySem.Challenge.rw_leastwholes_k53_whole_polynomials_and_ro.Holds := by
  exact K53.law_of K53.law_holds

end
