import PyProof.Rows.All
import Wide.All
import OpenK.AllK
import Wide.FinOn
import PySem.Challenge.RW_wayscounted_k01_ratios
import HandS.ForMost
import HandS.ForExc
import HandS.Wide
import HandS.TupAny
import HandS.TupLe
import HandS.CallSlots
import HandS.Lambda
import HandS.EndTab
import HandS.Zip
import HandS.Deep
import HandS.Style
import HandS.FStr
import HandS.ExcOwn
import HandS.Defaults
import HandS.Ends
import HandS.More
import HandS.Head0
import HandS.Head1
import HandS.Head2
import HandS.HeadEnd
import HandS.HeadHook1
import HandS.HeadHook2
import HandS.HeadHook3
import HandS.HeadHook4
import HandS.HeadWalk
import HandS.EndBits
import KE.KStateDown
import KE.SortData
set_option Elab.async false
set_option linter.all false
set_option maxRecDepth 100000
set_option maxHeartbeats 0
/-! Wd 1: the data-level interpreter. -/
namespace Wd
open PySem
/-- what a name or a fresh result is at the data level: a datum that never changes, or a list that one owner may change -/
inductive DV where
  | d (x : PyData)
  | own (xs : List PyData)
def DV.data : DV → PyData
  | .d x => x
  | .own xs => .list xs
abbrev DEnv := List (Option DV)
/-- a value told at once, or what stands in a slot -/
inductive PV where
  | val (v : DV)
  | slot (i : Nat)
inductive R (α : Type) where
  | ok (a : α) (e : DEnv)
  | exc (k : Nat)
  | bad
def R.bind {α β : Type} : R α → (α → DEnv → R β) → R β
  | .ok a e, f => f a e
  | .exc k, _ => .exc k
  | .bad, _ => .bad
@[simp] theorem R.bind_ok {α β : Type} (a : α) (e : DEnv) (f : α → DEnv → R β) : (R.ok a e).bind f = f a e := rfl
@[simp] theorem R.bind_exc {α β : Type} (k : Nat) (f : α → DEnv → R β) : (R.exc k : R α).bind f = .exc k := rfl
@[simp] theorem R.bind_bad {α β : Type} (f : α → DEnv → R β) : (R.bad : R α).bind f = .bad := rfl
/-- a call's answer: a value (and what the changed first argument holds then), an exception, or nothing known -/
inductive CA where
  | ok (v : DV) (back : Option (List PyData))
  | exc (k : Nat)
  | bad
inductive Op2 where
  | add | sub | mul | fdiv | mod | pow
  deriving DecidableEq
inductive Cm where
  | lt | le | gt | ge | eq | ne | isin | notin
  deriving DecidableEq
inductive Blt where
  | abs | int | len | max | min | sum | all | any | repr | str | tuple | list | sorted
  deriving DecidableEq
mutual
inductive E where
  | var (i : Nat)
  | int (i : Int)
  | str (s : Str)
  | bl (b : Bool)
  | non
  | glo (k : Nat)
  | bin (o : Op2) (a b : E)
  | rep (a b : E)
  | neg (a : E)
  | cmp (o : Cm) (a b : E)
  | chain (o p : Cm) (a b c : E)
  | ands (es : Es)
  | ors (es : Es)
  | nott (a : E)
  | ife (c : T) (a b : E)
  | tup (es : Es)
  | lst (es : Es)
  | idx (a i : E)
  | slc (a : E) (lo hi : Eo)
  | call (f : Nat) (es : Es)
  | callm (f : Nat) (i : Nat) (es : Es)
  | blt (b : Blt) (es : Es)
  | lc (elt : E) (g : Tg) (it : I) (c : Ts) (own : List Nat)
  | fmt (a : E)
  | js (es : Es)
inductive Es where
  | nil
  | cons (e : E) (es : Es)
inductive Eo where
  | no
  | so (e : E)
inductive T where
  | tru (e : E)
  | cmp (o : Cm) (a b : E)
  | chain (o p : Cm) (a b c : E)
  | ands (ts : Ts)
  | ors (ts : Ts)
  | nott (t : T)
inductive Ts where
  | nil
  | cons (t : T) (ts : Ts)
inductive I where
  | data (e : E)
  | rng1 (a : E)
  | rng2 (a b : E)
  | enum (es : Es)
  | zip (es : Es)
inductive Tg where
  | name (i : Nat)
  | tup (gs : Tgs)
inductive Tgs where
  | nil
  | cons (g : Tg) (gs : Tgs)
end
inductive Fl where
  | nx
  | ret (v : DV)
  | brk
  | ct
mutual
inductive S where
  | set (i : Nat) (e : E)
  | par (is : List Nat) (es : Es)
  | unp (g : Tg) (e : E)
  | seti (i : Nat) (ix e : E)
  | app (i : Nat) (e : E)
  | ext (i : Nat) (e : E)
  | expr (e : E)
  | ifs (c : T) (a b : Ss)
  | fors (g : Tg) (it : I) (body : Ss)
  | whl (c : T) (body : Ss)
  | ret (e : E)
  | retn
  | rais (k : Nat)
  | brk
  | cont
  | pass
inductive Ss where
  | nil
  | cons (s : S) (ss : Ss)
end
/-! ### values -/
def res : PV → DEnv → Option PyData
  | .val v, _ => some v.data
  | .slot i, e => match e[i]? with
    | some (some v) => some v.data
    | _ => none
/-- the value, never to change from now on -/
def frz : PV → DEnv → Option (PyData × DEnv)
  | .val v, e => some (v.data, e)
  | .slot i, e => match e[i]? with
    | some (some (.d x)) => some (x, e)
    | some (some (.own xs)) => some (.list xs, e.set i (some (.d (.list xs))))
    | _ => none
/-- the value for a name: a fresh list stays its own -/
def tak : PV → DEnv → Option (DV × DEnv)
  | .val v, e => some (v, e)
  | .slot i, e => match e[i]? with
    | some (some (.d x)) => some (.d x, e)
    | some (some (.own xs)) => some (.d (.list xs), e.set i (some (.d (.list xs))))
    | _ => none
/-! ### operations -/
def mulOk (i j : Int) : Bool := decide (i.natAbs.log2 + j.natAbs.log2 < 1000000)
def divOk (j : Int) : Bool := decide (j ≠ 0) && decide (j.natAbs.log2 < 9000)
def op2 : Op2 → PyData → PyData → Option DV
  | .add, .int i, .int j => some (.d (.int (i + j)))
  | .add, .str x, .str y => if x.length + y.length ≤ sizeLine then some (.d (.str (x ++ y))) else none
  | .add, .tuple xs, .tuple ys => if xs.length + ys.length ≤ sizeLine then some (.d (.tuple (xs ++ ys))) else none
  | .add, .list xs, .list ys => if xs.length + ys.length ≤ sizeLine then some (.own (xs ++ ys)) else none
  | .sub, .int i, .int j => some (.d (.int (i - j)))
  | .mul, .int i, .int j => if mulOk i j then some (.d (.int (i * j))) else none
  | .fdiv, .int i, .int j => if divOk j then some (.d (.int (i.fdiv j))) else none
  | .mod, .int i, .int j => if j ≠ 0 then some (.d (.int (i.fmod j))) else none
  | .pow, .int i, .int j => if 0 ≤ j ∧ j ≤ 1000000 ∧ i.natAbs < 2 ^ 64 then some (.d (.int (i ^ j.toNat))) else none
  | _, _, _ => none
/-- data whose == the model tells: no dicts, not too deep -/
def eqOk (x y : PyData) : Bool := SeqAt.shaped x && SeqAt.shaped y
def ltOk (x y : PyData) : Bool := PySem.W.alike x y && decide (x.depth ≤ 64) && decide (y.depth ≤ 64)
def dlt (x y : PyData) : Bool := PySem.W.dataLt x y
def eqd : PyData → PyData → Option Bool
  | .str s, .str t => some (decide (s = t))
  | x, y => if eqOk x y then some (PyData.eqv x y) else none
def cm2 : Cm → PyData → PyData → Option Bool
  | .lt, .int i, .int j => some (decide (i < j))
  | .le, .int i, .int j => some (decide (i ≤ j))
  | .gt, .int i, .int j => some (decide (j < i))
  | .ge, .int i, .int j => some (decide (j ≤ i))
  | .eq, x, y => eqd x y
  | .ne, x, y => (eqd x y).map (!·)
  | .isin, x, .list ys => if SeqAt.shaped x && SeqAt.shaped (.list ys) then some (ys.any fun z => PyData.eqv z x) else none
  | .notin, x, .list ys => if SeqAt.shaped x && SeqAt.shaped (.list ys) then some (!ys.any fun z => PyData.eqv z x) else none
  | _, _, _ => none
def truth : PyData → Option Bool
  | .none => some false
  | .bool b => some b
  | .int i => some (i != 0)
  | .str y => if y.length ≤ sizeLine then some ((y.length : Int) != 0) else none
  | .list xs => some (!xs.isEmpty)
  | .tuple xs => some (!xs.isEmpty)
  | .dict _ => none
def neg1 : PyData → Option DV
  | .int i => some (.d (.int (-i)))
  | _ => none
def ixd : PyData → PyData → Option DV
  | .list xs, .int i => (L2.atI xs i).map .d
  | .tuple xs, .int i => (L2.atI xs i).map .d
  | .str z, .int i => if z.length ≤ sizeLine then (L2.atI z.cps.toList i).map fun c => .d (.str ⟨#[c]⟩) else none
  | _, _ => none
def cutD (xs : List PyData) (lo hi : Option Int) : List PyData := (xs.drop (HT.sIx xs.length 0 lo)).take (HT.sIx xs.length xs.length hi - HT.sIx xs.length 0 lo)
def slcd : PyData → Option Int → Option Int → Option DV
  | .list xs, lo, hi => some (.own (cutD xs lo hi))
  | .tuple xs, lo, hi => some (.d (.tuple (cutD xs lo hi)))
  | _, _, _ => none
def boolsD : List PyData → Option (List Bool)
  | [] => some []
  | .bool b :: r => (boolsD r).map (b :: ·)
  | _ :: _ => none
def intsD : List PyData → Option (List Int)
  | [] => some []
  | .int b :: r => (intsD r).map (b :: ·)
  | _ :: _ => none
/-- texts, intsD, boolsD, None, lists and tuples of such can be shown -/
def showOk (x : PyData) : Bool := x.showable && !x.hasDict && decide (x.depth ≤ 60) && decide (x.shown.length ≤ sizeLine)
def bAbs : List PyData → Option DV
  | [.int i] => some (.d (.int (if i < 0 then -i else i)))
  | _ => none
def bInt : List PyData → Option DV
  | [.int i] => some (.d (.int i))
  | [.bool b] => some (.d (.int (if b then 1 else 0)))
  | _ => none
def bLen : List PyData → Option DV
  | [.list xs] => some (.d (.int xs.length))
  | [.tuple xs] => some (.d (.int xs.length))
  | [.str y] => if y.length ≤ sizeLine then some (.d (.int y.length)) else none
  | _ => none
def bMax : List PyData → Option DV
  | [.int i, .int j] => some (.d (.int (if j > i then j else i)))
  | _ => none
def bMin : List PyData → Option DV
  | [.int i, .int j] => some (.d (.int (if j < i then j else i)))
  | _ => none
def bSum : List PyData → Option DV
  | [.list xs] => (intsD xs).map fun ns => .d (.int ns.sum)
  | _ => none
def bAll : List PyData → Option DV
  | [.list xs] => (boolsD xs).map fun bs => .d (.bool (bs.all id))
  | _ => none
def bAny : List PyData → Option DV
  | [.list xs] => (boolsD xs).map fun bs => .d (.bool (bs.any id))
  | _ => none
def bRepr : List PyData → Option DV
  | [.list xs] => if showOk (.list xs) then some (.d (.str (PyData.shown (.list xs)))) else none
  | _ => none
def bStr : List PyData → Option DV
  | [.int i] => if i.natAbs.log2 < 1920 then some (.d (.str (toString i))) else none
  | _ => none
def bList : List PyData → Option DV
  | [.list xs] => some (.own xs)
  | [.tuple xs] => some (.own xs)
  | _ => none
def bTuple : List PyData → Option DV
  | [.list xs] => some (.d (.tuple xs))
  | [.tuple xs] => some (.d (.tuple xs))
  | _ => none
def bltR : Blt → List PyData → Option DV
  | .abs => bAbs
  | .int => bInt
  | .len => bLen
  | .max => bMax
  | .min => bMin
  | .sum => bSum
  | .all => bAll
  | .any => bAny
  | .repr => bRepr
  | .str => bStr
  | .list => bList
  | .tuple => bTuple
  | .sorted => fun _ => none
def wipeD (e : DEnv) : List Nat → DEnv
  | [] => e
  | v :: vs => (wipeD e vs).set v none
def noOwn (e : DEnv) (own : List Nat) : Bool := own.all fun v => match (e[v]? : Option (Option DV)) with
  | some (some (.own _)) => false
  | _ => true
/-- behind a comprehension: its own slots are as they were -/
def unwipe (e0 e : DEnv) : List Nat → DEnv
  | [] => e
  | v :: vs => (unwipe e0 e vs).set v ((e0[v]?).getD none)
def rangeD (lo : Int) (n : Nat) : List PyData := (List.range n).map fun (i : Nat) => .int (lo + i)
def small62 (i : Int) : Bool := decide (-(2 ^ 62) ≤ i) && decide (i < 2 ^ 62)
def items : PyData → Option (List PyData)
  | .list xs => some xs
  | .tuple xs => some xs
  | .str z => some (z.cps.toList.map fun c => .str ⟨#[c]⟩)
  | _ => none
def enumD : Nat → List PyData → List PyData
  | _, [] => []
  | k, x :: r => .tuple [.int k, x] :: enumD (k + 1) r
def enumOf : List PyData → Option (List PyData)
  | [.list xs] => some (enumD 0 xs)
  | _ => none
def zipOf : List PyData → Option (List PyData)
  | [.list xs, .list ys] => some (List.zipWith (fun u v => .tuple [u, v]) xs ys)
  | [.tuple xs, .tuple ys] => some (List.zipWith (fun u v => .tuple [u, v]) xs ys)
  | _ => none
mutual
def tgs : Tg → List Nat
  | .name i => [i]
  | .tup gs => tgss gs
def tgss : Tgs → List Nat
  | .nil => []
  | .cons g gs => tgs g ++ tgss gs
end
mutual
def bindT : Tg → PyData → DEnv → Option DEnv
  | .name i, x, e => if i < e.length then some (e.set i (some (.d x))) else none
  | .tup gs, .tuple xs, e => bindTs gs xs e
  | .tup _, _, _ => none
def bindTs : Tgs → List PyData → DEnv → Option DEnv
  | .nil, [], e => some e
  | .cons g gs, x :: xs, e => match bindT g x e with
    | some e1 => bindTs gs xs e1
    | none => none
  | _, _, _ => none
end
structure Orc where
  cf : Nat → List DV → CA
  glo : List PyData
  kd : Nat → Nat := fun k => k
def lift1 {α : Type} : Option α → DEnv → R α
  | some v, e => .ok v e
  | none, _ => .bad
def noExc {α : Type} : R α → R α
  | .ok a e => .ok a e
  | _ => .bad
/-- a comprehension's turns -/
def lcGo (g : Tg) (own : List Nat) (tst : DEnv → R Bool) (elt : DEnv → R PyData) : List PyData → List PyData → DEnv → R (List PyData)
  | [], acc, e => .ok acc e
  | x :: r, acc, e => match bindT g x (wipeD e own) with
    | none => .bad
    | some e1 => (noExc (tst e1)).bind fun b e2 => if b then (noExc (elt e2)).bind fun y e3 => if acc.length < sizeLine then lcGo g own tst elt r (acc ++ [y]) (unwipe e e3 own) else .bad else lcGo g own tst elt r acc (unwipe e e2 own)
def forL (g : Tg) (body : DEnv → R Fl) : List PyData → DEnv → R Fl
  | [], e => .ok .nx e
  | x :: r, e => match bindT g x e with
    | none => .bad
    | some e1 => (body e1).bind fun f e2 => match f with
      | .nx => forL g body r e2
      | .ct => forL g body r e2
      | .brk => .ok .nx e2
      | .ret v => .ok (.ret v) e2
def whL (c : DEnv → R Bool) (body : DEnv → R Fl) : Nat → DEnv → R Fl
  | 0, _ => .bad
  | n + 1, e => (c e).bind fun b e1 => if b then (body e1).bind fun f e2 => match f with
      | .nx => whL c body n e2
      | .ct => whL c body n e2
      | .brk => .ok .nx e2
      | .ret v => .ok (.ret v) e2
    else .ok .nx e1
def fuelW : Nat := 1000000000
mutual
def ev (O : Orc) : E → DEnv → R PV
  | .var i, e => match e[i]? with
    | some (some _) => .ok (.slot i) e
    | _ => .bad
  | .int i, e => .ok (.val (.d (.int i))) e
  | .str s, e => .ok (.val (.d (.str s))) e
  | .bl b, e => .ok (.val (.d (.bool b))) e
  | .non, e => .ok (.val (.d .none)) e
  | .glo k, e => lift1 ((O.glo[k]?).map fun x => .val (.d x)) e
  | .bin o a b, e => (ev O a e).bind fun pa e1 => (ev O b e1).bind fun pb e2 => lift1 ((res pa e2).bind fun x => (res pb e2).bind fun y => (op2 o x y).map .val) e2
  | .rep a b, e => (ev O a e).bind fun pa e1 => (ev O b e1).bind fun pb e2 => match pa, res pb e2 with
    | .val (.own xs), some (.int k) => if -(2 ^ 63) ≤ k ∧ k < 2 ^ 63 ∧ xs.length * k.toNat ≤ sizeLine then .ok (.val (.own (List.replicate k.toNat xs).flatten)) e2 else .bad
    | _, _ => .bad
  | .neg a, e => (ev O a e).bind fun pa e1 => lift1 ((res pa e1).bind fun x => (neg1 x).map .val) e1
  | .cmp o a b, e => (ev O a e).bind fun pa e1 => (ev O b e1).bind fun pb e2 => (lift1 ((res pa e2).bind fun x => (res pb e2).bind fun y => cm2 o x y) e2).bind fun k e3 => .ok (.val (.d (.bool k))) e3
  | .chain o p a b c, e => (ev O a e).bind fun pa e1 => (ev O b e1).bind fun pb e2 => (lift1 ((res pa e2).bind fun x => (res pb e2).bind fun y => cm2 o x y) e2).bind fun k e2 => if k then (ev O c e2).bind fun pc e3 => (lift1 ((res pb e3).bind fun y => (res pc e3).bind fun z => cm2 p y z) e3).bind fun k e4 => .ok (.val (.d (.bool k))) e4 else .ok (.val (.d (.bool false))) e2
  | .ands es, e => evAnd O es e
  | .ors es, e => evOr O es e
  | .nott a, e => (ev O a e).bind fun pa e1 => match res pa e1 with
    | some (.bool c) => .ok (.val (.d (.bool (!c)))) e1
    | _ => .bad
  | .ife c a b, e => (evT O c e).bind fun t e1 => if t then ev O a e1 else ev O b e1
  | .tup es, e => (evDs O es e).bind fun xs e1 => if xs.length ≤ sizeLine then .ok (.val (.d (.tuple xs))) e1 else .bad
  | .lst es, e => (evDs O es e).bind fun xs e1 => if xs.length ≤ sizeLine then .ok (.val (.own xs)) e1 else .bad
  | .idx a i, e => (ev O a e).bind fun pa e1 => (ev O i e1).bind fun pi e2 => lift1 ((res pa e2).bind fun x => (res pi e2).bind fun y => (ixd x y).map .val) e2
  | .slc a lo hi, e => (ev O a e).bind fun pa e1 => (evO O lo e1).bind fun l e2 => (evO O hi e2).bind fun h e3 => lift1 ((res pa e3).bind fun x => (slcd x l h).map .val) e3
  | .call f es, e => (evDs O es e).bind fun xs e1 => match O.cf f (xs.map .d) with
    | .ok v none => .ok (.val v) e1
    | .exc k => .exc k
    | _ => .bad
  | .callm f i es, e => match e[i]? with
    | some (some (.own _)) => (evDs O es e).bind fun xs e1 => (match e1[i]? with
      | some (some (.own ys)) => (match O.cf f (.own ys :: xs.map .d) with
        | .ok v (some zs) => .ok (.val v) (e1.set i (some (.own zs)))
        | _ => .bad)
      | _ => .bad)
    | _ => .bad
  | .blt b es, e => (evPs O es e).bind fun xs e1 => lift1 ((bltR b xs).map .val) e1
  | .lc elt g it c own, e => (evI O it e).bind fun xs e1 => if noOwn e1 own then (lcGo g own (evTs O c) (fun e2 => (ev O elt e2).bind fun p e3 => match frz p e3 with
      | some (x, e4) => .ok x e4
      | none => .bad) xs [] e1).bind fun ys e2 => .ok (.val (.own ys)) e2 else .bad
  | .fmt a, e => (ev O a e).bind fun p e1 => match res p e1 with
    | some (.str y) => if y.length ≤ sizeLine then .ok (.val (.d (.str y))) e1 else .bad
    | some (.int i) => if i.natAbs.log2 < 1920 then .ok (.val (.d (.str (toString i)))) e1 else .bad
    | _ => .bad
  | .js es, e => evJ O es Str.empty e
def evJ (O : Orc) : Es → Str → DEnv → R PV
  | .nil, acc, e => .ok (.val (.d (.str acc))) e
  | .cons a es, acc, e => (ev O a e).bind fun p e1 => match res p e1 with
    | some (.str y) => if (acc ++ y).length ≤ sizeLine then evJ O es (acc ++ y) e1 else .bad
    | _ => .bad
def evDs (O : Orc) : Es → DEnv → R (List PyData)
  | .nil, e => .ok [] e
  | .cons a es, e => (ev O a e).bind fun p e1 => match frz p e1 with
    | some (x, e2) => (evDs O es e2).bind fun xs e3 => .ok (x :: xs) e3
    | none => .bad
def evPs (O : Orc) : Es → DEnv → R (List PyData)
  | .nil, e => .ok [] e
  | .cons a es, e => (ev O a e).bind fun p e1 => (evPs O es e1).bind fun xs e2 => lift1 ((res p e2).map (· :: xs)) e2
def evO (O : Orc) : Eo → DEnv → R (Option Int)
  | .no, e => .ok none e
  | .so a, e => (ev O a e).bind fun p e1 => match res p e1 with
    | some (.int i) => .ok (some i) e1
    | _ => .bad
def evT (O : Orc) : T → DEnv → R Bool
  | .tru a, e => (ev O a e).bind fun p e1 => lift1 ((res p e1).bind truth) e1
  | .cmp o a b, e => (ev O a e).bind fun pa e1 => (ev O b e1).bind fun pb e2 => lift1 ((res pa e2).bind fun x => (res pb e2).bind fun y => cm2 o x y) e2
  | .chain o p a b c, e => (ev O a e).bind fun pa e1 => (ev O b e1).bind fun pb e2 => (lift1 ((res pa e2).bind fun x => (res pb e2).bind fun y => cm2 o x y) e2).bind fun k e2 => if k then (ev O c e2).bind fun pc e3 => lift1 ((res pb e3).bind fun y => (res pc e3).bind fun z => cm2 p y z) e3 else .ok false e2
  | .ands ts, e => evTs O ts e
  | .ors ts, e => evTo O ts e
  | .nott t, e => (evT O t e).bind fun b e1 => .ok (!b) e1
/-- bools, but for the last one -/
def evAnd (O : Orc) : Es → DEnv → R PV
  | .nil, _ => .bad
  | .cons a es, e => match es with
    | .nil => ev O a e
    | es => (ev O a e).bind fun p e1 => match res p e1 with
      | some (.bool c) => if c then evAnd O es e1 else .ok (.val (.d (.bool false))) e1
      | _ => .bad
def evOr (O : Orc) : Es → DEnv → R PV
  | .nil, _ => .bad
  | .cons a es, e => match es with
    | .nil => ev O a e
    | es => (ev O a e).bind fun p e1 => match res p e1 with
      | some (.bool c) => if c then .ok (.val (.d (.bool true))) e1 else evOr O es e1
      | _ => .bad
/-- all of them, from the left -/
def evTs (O : Orc) : Ts → DEnv → R Bool
  | .nil, e => .ok true e
  | .cons t ts, e => (evT O t e).bind fun b e1 => if b then evTs O ts e1 else .ok false e1
/-- one of them, from the left -/
def evTo (O : Orc) : Ts → DEnv → R Bool
  | .nil, e => .ok false e
  | .cons t ts, e => (evT O t e).bind fun b e1 => if b then .ok true e1 else evTo O ts e1
def evI (O : Orc) : I → DEnv → R (List PyData)
  | .data a, e => (ev O a e).bind fun p e1 => match frz p e1 with
    | some (x, e2) => lift1 (items x) e2
    | none => .bad
  | .rng1 a, e => (ev O a e).bind fun p e1 => match res p e1 with
    | some (.int n) => if small62 n then .ok (rangeD 0 n.toNat) e1 else .bad
    | _ => .bad
  | .rng2 a b, e => (ev O a e).bind fun p e1 => (ev O b e1).bind fun q e2 => match res p e2, res q e2 with
    | some (.int n), some (.int m) => if small62 n && small62 m then .ok (rangeD n (m - n).toNat) e2 else .bad
    | _, _ => .bad
  | .enum es, e => (evDs O es e).bind fun xs e1 => lift1 (enumOf xs) e1
  | .zip es, e => (evDs O es e).bind fun xs e1 => lift1 (zipOf xs) e1
end
def evVs (O : Orc) : Es → DEnv → R (List DV)
  | .nil, e => .ok [] e
  | .cons a es, e => (ev O a e).bind fun p e1 => match tak p e1 with
    | some (x, e2) => (evVs O es e2).bind fun xs e3 => .ok (x :: xs) e3
    | none => .bad
def setAll : List Nat → List DV → DEnv → Option DEnv
  | [], [], e => some e
  | i :: is, v :: vs, e => if i < e.length then setAll is vs (e.set i (some v)) else none
  | _, _, _ => none
mutual
def exS (O : Orc) : S → DEnv → R Fl
  | .set i c, e => (ev O c e).bind fun p e1 => match tak p e1 with
    | some (v, e2) => if i < e2.length then .ok .nx (e2.set i (some v)) else .bad
    | none => .bad
  | .par is es, e => (evVs O es e).bind fun vs e1 => match setAll is vs e1 with
    | some e2 => .ok .nx e2
    | none => .bad
  | .unp g c, e => (ev O c e).bind fun p e1 => match frz p e1 with
    | some (x, e2) => (match bindT g x e2 with
      | some e3 => .ok .nx e3
      | none => .bad)
    | none => .bad
  | .seti i ix c, e => (ev O c e).bind fun p e1 => match frz p e1 with
    | some (y, e2) => (match e2[i]? with
      | some (some (.own _)) => (ev O ix e2).bind fun q e3 => (match e3[i]?, res q e3 with
        | some (some (.own xs)), some (.int k) => (match L2.ixN xs.length k with
          | some j => .ok .nx (e3.set i (some (.own (xs.set j y))))
          | none => .bad)
        | _, _ => .bad)
      | _ => .bad)
    | none => .bad
  | .app i c, e => match e[i]? with
    | some (some (.own _)) => (ev O c e).bind fun p e1 => (match frz p e1 with
      | some (y, e2) => (match e2[i]? with
        | some (some (.own xs)) => if xs.length < sizeLine then .ok .nx (e2.set i (some (.own (xs ++ [y])))) else .bad
        | _ => .bad)
      | none => .bad)
    | _ => .bad
  | .ext i c, e => match e[i]? with
    | some (some (.own _)) => (ev O c e).bind fun p e1 => (match p with
      | .val (.own ys) => (match e1[i]? with
        | some (some (.own xs)) => if xs.length + ys.length ≤ sizeLine then .ok .nx (e1.set i (some (.own (xs ++ ys)))) else .bad
        | _ => .bad)
      | _ => .bad)
    | _ => .bad
  | .expr c, e => (ev O c e).bind fun _ e1 => .ok .nx e1
  | .ifs c a b, e => (evT O c e).bind fun t e1 => if t then exSs O a e1 else exSs O b e1
  | .fors g it body, e => (evI O it e).bind fun xs e1 => forL g (exSs O body) xs e1
  | .whl c body, e => whL (evT O c) (exSs O body) fuelW e
  | .ret c, e => (ev O c e).bind fun p e1 => match tak p e1 with
    | some (v, e2) => .ok (.ret v) e2
    | none => .bad
  | .retn, e => .ok (.ret (.d .none)) e
  | .rais k, _ => .exc k
  | .brk, e => .ok .brk e
  | .cont, e => .ok .ct e
  | .pass, e => .ok .nx e
def exSs (O : Orc) : Ss → DEnv → R Fl
  | .nil, e => .ok .nx e
  | .cons s ss, e => (exS O s e).bind fun f e1 => match f with
    | .nx => exSs O ss e1
    | .ret v => .ok (.ret v) e1
    | .brk => .ok .brk e1
    | .ct => .ok .ct e1
end
/-- a def of the program, compact -/
structure FI where
  name : Str
  ps : List Str
  N : List Str
  mut0 : Bool
  body : Ss
def argOk (m : Bool) : List DV → Bool
  | [] => !m
  | .own _ :: r => m && r.all fun v => match v with | .d _ => true | .own _ => false
  | .d _ :: r => !m && r.all fun v => match v with | .d _ => true | .own _ => false
def finR (m : Bool) (v : DV) (e : DEnv) : CA :=
  if m then (match (e[0]? : Option (Option DV)) with
    | some (some (.own xs)) => .ok v (some xs)
    | _ => .bad) else .ok v none
def runF (O : Orc) (F : FI) (args : List DV) : CA :=
  if args.length = F.ps.length ∧ argOk F.mut0 args = true then
    match exSs O F.body (args.map some ++ List.replicate (F.N.length - args.length) none) with
    | .ok .nx e => finR F.mut0 (.d .none) e
    | .ok (.ret v) e => finR F.mut0 v e
    | .ok _ _ => .bad
    | .exc k => if F.mut0 then .bad else .exc k
    | .bad => .bad
  else .bad
def callF (T : List FI) (G : List PyData) : Nat → Nat → List DV → CA
  | 0, _, _ => .bad
  | n + 1, f, args => match T[f]? with
    | some F => runF { cf := callF T G n, glo := G } F args
    | none => .bad
end Wd
/-! Wd 2: data in the abstract heap; the ghost step that locks a list; what an expression leaves. -/
namespace Wd
open PySem PySem.Spec PyProof.Rows L2
/-! ### data that never change -/
mutual
inductive Fz (K : PySem.W.Frag) (H : Hp) : V → PyData → Prop
  | non : Fz K H .non .none
  | bl (b : Bool) : Fz K H (.bl b) (.bool b)
  | int (i : Int) : Fz K H (.int i) (.int i)
  | str (x : Str) : Fz K H (.str x) (.str x)
  | lst {a : Addr} {o : Obj} {xs : List V} {ds : List PyData} : H a = some (.frz o (.lst xs)) → FzAll K H xs ds → Fz K H (.ref a) (.list ds)
  | lstK {a : Addr} {o : Obj} {its : Array Value} {n : Nat} {xs : List V} {ds : List PyData} : K.lookup a = some o → o.cls = .type "list" → o.dict = none → o.data = .seq its n → its.size ≤ sizeLine → Vals xs its.toList → FzAll K H xs ds → Fz K H (.ref a) (.list ds)
  | tup {a : Addr} {xs : List V} {ds : List PyData} : SqT K H a xs → FzAll K H xs ds → Fz K H (.ref a) (.tuple ds)
inductive FzAll (K : PySem.W.Frag) (H : Hp) : List V → List PyData → Prop
  | nil : FzAll K H [] []
  | cons {v : V} {vs : List V} {d : PyData} {ds : List PyData} : Fz K H v d → FzAll K H vs ds → FzAll K H (v :: vs) (d :: ds)
end
section
variable {K : PySem.W.Frag} {H H' : Hp}
mutual
theorem Fz.dp : ∀ {v : V} {d : PyData}, Fz K H v d → Dp K H v d
  | _, _, .non => .non
  | _, _, .bl b => .bl b
  | _, _, .int i => .int i
  | _, _, .str x => .str x
  | _, _, .lst h a => .lst (.inl (.inr ⟨_, h⟩)) (FzAll.dp a)
  | _, _, .lstK h1 h2 h3 h4 h5 h6 a => .lst (.inr ⟨_, _, _, h1, h2, h3, h4, h5, h6⟩) (FzAll.dp a)
  | _, _, .tup h a => .tup h (FzAll.dp a)
theorem FzAll.dp : ∀ {vs : List V} {ds : List PyData}, FzAll K H vs ds → DpAll K H vs ds
  | _, _, .nil => .nil
  | _, _, .cons h a => .cons (Fz.dp h) (FzAll.dp a)
end
/-- what never changes stands -/
def Stay (H H' : Hp) : Prop := (∀ b xs, H b = some (.tup xs) → H' b = some (.tup xs)) ∧ ∀ b o u, H b = some (.frz o u) → H' b = some (.frz o u)
theorem Stay.refl (H : Hp) : Stay H H := ⟨fun _ _ h => h, fun _ _ _ h => h⟩
theorem Stay.trans {H1 : Hp} (a : Stay H H1) (b : Stay H1 H') : Stay H H' := ⟨fun c xs h => b.1 c xs (a.1 c xs h), fun c o u h => b.2 c o u (a.2 c o u h)⟩
theorem Stay.sqT (s : Stay H H') {a : Addr} {xs : List V} (h : SqT K H a xs) : SqT K H' a xs := by
  rcases h with (h | ⟨o, h⟩) | h
  · exact .inl (.inl (s.1 _ _ h))
  · exact .inl (.inr ⟨o, s.2 _ _ _ h⟩)
  · exact .inr h
mutual
theorem Fz.stay (s : Stay H H') : ∀ {v : V} {d : PyData}, Fz K H v d → Fz K H' v d
  | _, _, .non => .non
  | _, _, .bl b => .bl b
  | _, _, .int i => .int i
  | _, _, .str x => .str x
  | _, _, .lst h a => .lst (s.2 _ _ _ h) (FzAll.stay s a)
  | _, _, .lstK h1 h2 h3 h4 h5 h6 a => .lstK h1 h2 h3 h4 h5 h6 (FzAll.stay s a)
  | _, _, .tup h a => .tup (s.sqT h) (FzAll.stay s a)
theorem FzAll.stay (s : Stay H H') : ∀ {vs : List V} {ds : List PyData}, FzAll K H vs ds → FzAll K H' vs ds
  | _, _, .nil => .nil
  | _, _, .cons h a => .cons (Fz.stay s h) (FzAll.stay s a)
end
theorem FzAll.length : ∀ {vs : List V} {ds : List PyData}, FzAll K H vs ds → vs.length = ds.length
  | _, _, .nil => rfl
  | _, _, .cons _ a => congrArg (· + 1) (FzAll.length a)
theorem DpAll.length : ∀ {vs : List V} {ds : List PyData}, DpAll K H vs ds → vs.length = ds.length
  | _, _, .nil => rfl
  | _, _, .cons _ a => congrArg (· + 1) (DpAll.length a)
theorem FzAll.append : ∀ {vs ws : List V} {ds es : List PyData}, FzAll K H vs ds → FzAll K H ws es → FzAll K H (vs ++ ws) (ds ++ es)
  | _, _, _, _, .nil, b => b
  | _, _, _, _, .cons h a, b => .cons h (FzAll.append a b)
theorem FzAll.take : ∀ {vs : List V} {ds : List PyData} (n : Nat), FzAll K H vs ds → FzAll K H (vs.take n) (ds.take n)
  | _, _, 0, _ => .nil
  | _, _, _ + 1, .nil => .nil
  | _, _, n + 1, .cons h a => .cons h (FzAll.take n a)
theorem FzAll.drop : ∀ {vs : List V} {ds : List PyData} (n : Nat), FzAll K H vs ds → FzAll K H (vs.drop n) (ds.drop n)
  | _, _, 0, a => a
  | _, _, _ + 1, .nil => .nil
  | _, _, n + 1, .cons _ a => FzAll.drop n a
theorem FzAll.set {v : V} {d : PyData} (h : Fz K H v d) : ∀ {vs : List V} {ds : List PyData} (n : Nat), FzAll K H vs ds → FzAll K H (vs.set n v) (ds.set n d)
  | _, _, _, .nil => .nil
  | _, _, 0, .cons _ a => .cons h a
  | _, _, n + 1, .cons q a => .cons q (FzAll.set h n a)
theorem FzAll.rep {vs : List V} {ds : List PyData} (h : FzAll K H vs ds) : ∀ n : Nat, FzAll K H (List.replicate n vs).flatten (List.replicate n ds).flatten
  | 0 => .nil
  | n + 1 => by
    rw [List.replicate_succ, List.replicate_succ, List.flatten_cons, List.flatten_cons]
    exact h.append (FzAll.rep h n)
theorem FzAll.get : ∀ {vs : List V} {ds : List PyData} {i : Nat} {d : PyData}, FzAll K H vs ds → ds[i]? = some d → ∃ v, vs[i]? = some v ∧ Fz K H v d
  | _, _, _, _, .nil, e => by simp at e
  | _, _, 0, _, .cons h _, e => by simp at e; subst e; exact ⟨_, rfl, h⟩
  | _, _, i + 1, d, .cons _ a, e => by
    obtain ⟨v, e1, h⟩ := FzAll.get (i := i) (d := d) a (by simpa using e)
    exact ⟨v, by simpa using e1, h⟩
theorem FzAll.getV : ∀ {vs : List V} {ds : List PyData} {i : Nat} {v : V}, FzAll K H vs ds → vs[i]? = some v → ∃ d, ds[i]? = some d ∧ Fz K H v d
  | _, _, _, _, .nil, e => by simp at e
  | _, _, 0, _, .cons h _, e => by simp at e; subst e; exact ⟨_, rfl, h⟩
  | _, _, i + 1, v, .cons _ a, e => by
    obtain ⟨d, e1, h⟩ := FzAll.getV (i := i) (v := v) a (by simpa using e)
    exact ⟨d, by simpa using e1, h⟩
end
/-! ### the ghost step: a list is locked -/
theorem freeze_inv {X : Cx} {pins : List (Addr × Obj)} {σ : L2.St} {H : Hp} {s : Shared} {a : Addr} {xs : List V} (I : L2.Inv X pins σ H s) (h : H a = some (.lst xs)) : ∃ o, L2.Inv X pins σ (upd H a (.frz o (.lst xs))) s := by
  have hk := I.hok a _ h
  obtain ⟨z, its, n, r, e⟩ := id hk
  refine ⟨{ cls := .type "list", data := .seq its.toArray n }, ?_⟩
  have ne : ∀ b u, H b = some u → (∀ ys, u ≠ .lst ys) → b ≠ a := fun b u q w z => by
    rw [z, h] at q
    exact w xs (Option.some.inj q).symm
  have nn : ∀ b, H b = none → b ≠ a := fun b q z => by
    rw [z, h] at q
    cases q
  have un : Un X.fs [] H (upd H a (.frz { cls := .type "list", data := .seq its.toArray n } (.lst xs))) s.heap s.heap :=
    ⟨fun b o q _ _ _ => q, fun b o q _ _ _ => ⟨o.slots, q⟩, fun b o q n' _ => by rw [upd_ne (nn b n')]; exact n', fun b o q _ => ⟨o, q⟩, fun b ys q => by rw [upd_ne (ne b _ q fun _ z => by cases z)]; exact q,
      fun b o u q => by rw [upd_ne (ne b _ q fun _ z => by cases z)]; exact q, fun b ps q => ⟨#[], by rw [upd_ne (ne b _ q fun _ z => by cases z), q]; simp⟩⟩
  have hok : HOk X.prog X.w (upd H a (.frz { cls := .type "list", data := .seq its.toArray n } (.lst xs))) s.heap := fun b u q => by
    by_cases hb : b = a
    · subst hb
      rw [upd_same] at q
      cases q
      exact ⟨e, z, its, n, r, e⟩
    · rw [upd_ne hb] at q
      exact (I.hok b u q).stay (fun _ _ _ k => k) (fun c k => by rw [upd_ne (ne c _ k fun _ z => by cases z)]; exact k) fun c ys k => by rw [upd_ne (ne c _ k fun _ z => by cases z)]; exact k
  exact I.un (h' := s.heap) (t' := s.toks) un hok
/-- as it stands, or with one more list locked -/
def GF (H : Hp) (P : Hp → Prop) : Prop := P H ∨ ∃ a xs, H a = some (.lst xs) ∧ ∀ o, P (upd H a (.frz o (.lst xs)))
section
variable {X : Cx} {e : Expr} {te : TE}
def tGF (te : TE) : TE := fun σ H Q => te σ H fun x H1 => GF H1 (Q x)
theorem pe_gf (h : PE X e te) : PE X e (tGF te) := by
  refine ⟨fun pins s σ H Q I hq => ?_⟩
  refine thn (h.run pins s σ H _ I hq) fun u s1 ⟨v, H1, I1, r, q⟩ => ?_
  rcases q with q | ⟨a, xs, ha, q⟩
  · exact ⟨v, H1, I1, r, q⟩
  · obtain ⟨o, I2⟩ := freeze_inv I1 ha
    exact ⟨v, _, I2, r, q o⟩
end
/-! ### what may change -/
/-- all that is tracked stands, but what O tells, and tables -/
def Ext (O : Addr → Prop) (H H' : Hp) : Prop := ∀ b o, H b = some o → ¬ O b → (∀ ps, o ≠ .tbl ps) → H' b = some o
def isLst (H : Hp) (O : Addr → Prop) : Prop := ∀ b, O b → ∃ xs, H b = some (.lst xs)
theorem Ext.refl {O : Addr → Prop} {H : Hp} : Ext O H H := fun _ _ h _ _ => h
theorem Ext.of {O : Addr → Prop} {H H' : Hp} (h : ∀ b o, H b = some o → H' b = some o) : Ext O H H' := fun b o q _ _ => h b o q
theorem Ext.trans {O O' : Addr → Prop} {H H1 H2 : Hp} (a : Ext O H H1) (b : Ext O' H1 H2) (h : ∀ c o, H c = some o → O' c → O c) : Ext O H H2 := fun c o q n t => b c o (a c o q n t) (fun z => n (h c o q z)) t
theorem Ext.mono {O O' : Addr → Prop} {H H1 : Hp} (a : Ext O H H1) (h : ∀ c, O c → O' c) : Ext O' H H1 := fun c o q n t => a c o q (fun z => n (h c z)) t
theorem Ext.stay {O : Addr → Prop} {H H' : Hp} (a : Ext O H H') (l : isLst H O) : Stay H H' := by
  refine ⟨fun b xs h => a b _ h (fun z => ?_) fun _ z => (by cases z), fun b o u h => a b _ h (fun z => ?_) fun _ z => (by cases z)⟩
  · obtain ⟨ys, e⟩ := l b z
    rw [h] at e
    cases e
  · obtain ⟨ys, e⟩ := l b z
    rw [h] at e
    cases e
abbrev TL := List (Addr × Str)
theorem tabs_upd {TB : TL} {H : Hp} {a : Addr} {o : HO} (t : LamX.Tabs TB H) (h : H a = none ∨ ∃ xs, H a = some (.lst xs)) : LamX.Tabs TB (upd H a o) := fun p hp => by
  obtain ⟨ps, h1, h2, h3⟩ := t p hp
  have ne : ∀ b u, H b = some u → (∀ ys, u ≠ .lst ys) → b ≠ a := fun b u q w z => by
    subst z
    rcases h with e | ⟨ys, e⟩
    · rw [e] at q; cases q
    · rw [e] at q; exact w ys (Option.some.inj q).symm
  refine ⟨ps, by rw [upd_ne (ne _ _ h1 fun _ z => by cases z)]; exact h1, h2, fun pos cv hc => ?_⟩
  obtain ⟨c, e1, e2⟩ := h3 pos cv hc
  exact ⟨c, e1, by rw [upd_ne (ne _ _ e2 fun _ z => by unfold LamX.CodeO at z; cases z)]; exact e2⟩
/-! ### the frame's names -/
/-- x is what v tells -/
def RV (K : PySem.W.Frag) (H : Hp) (x : V) : DV → Prop
  | .d y => Fz K H x y
  | .own ys => ∃ a vs, x = .ref a ∧ H a = some (.lst vs) ∧ FzAll K H vs ys
/-- the lists that names own -/
def OwnA (env : DEnv) (σ : L2.St) (b : Addr) : Prop := ∃ (i : Nat) (xs : List PyData), env[i]? = some (some (DV.own xs)) ∧ σ[i]? = some (some (V.ref b))
structure RepE (K : PySem.W.Frag) (TB : TL) (H : Hp) (σ : L2.St) (env : DEnv) : Prop where
  len : env.length = σ.length
  at_ : ∀ (i : Nat) (v : DV), env[i]? = some (some v) → ∃ x, σ[i]? = some (some x) ∧ RV K H x v
  inj : ∀ (i j : Nat) (xs ys : List PyData) (a : Addr), env[i]? = some (some (DV.own xs)) → env[j]? = some (some (DV.own ys)) → σ[i]? = some (some (V.ref a)) → σ[j]? = some (some (V.ref a)) → i = j
  tabs : LamX.Tabs TB H
section
variable {K : PySem.W.Frag} {TB : TL} {H H' H1 H2 : Hp} {σ : L2.St} {env env' env1 env2 : DEnv}
theorem RV.dp {x : V} {v : DV} (h : RV K H x v) : Dp K H x v.data := by
  cases v with
  | d y => exact Fz.dp h
  | own ys =>
    obtain ⟨a, vs, rfl, e, al⟩ := h
    exact .lst (.inl (.inl e)) al.dp
theorem RepE.own_lst (r : RepE K TB H σ env) : isLst H (OwnA env σ) := fun b ⟨i, xs, h1, h2⟩ => by
  obtain ⟨x, e, a, vs, rfl, e2, _⟩ := r.at_ i _ h1
  rw [h2] at e
  cases e
  exact ⟨vs, e2⟩
/-- what an expression's result is -/
def PR (K : PySem.W.Frag) (H H' : Hp) (σ : L2.St) (env' : DEnv) (v : V) : PV → Prop
  | .val (.d x) => Fz K H' v x
  | .val (.own xs) => ∃ a vs, v = .ref a ∧ H' a = some (.lst vs) ∧ FzAll K H' vs xs ∧ H a = none
  | .slot i => σ[i]? = some (some v) ∧ ∃ w, env'[i]? = some (some w)
/-- behind an expression -/
structure EP1 (K : PySem.W.Frag) (TB : TL) (σ : L2.St) (H : Hp) (env : DEnv) (H' : Hp) (env' : DEnv) : Prop where
  ext : Ext (OwnA env σ) H H'
  rep : RepE K TB H' σ env'
  sub : ∀ b, OwnA env' σ b → OwnA env σ b
  asg : ∀ (i : Nat) (w : DV), env[i]? = some (some w) → ∃ w', env'[i]? = some (some w')
  gone : ∀ b, H' b = none → H b = none
  base : isLst H (OwnA env σ)
theorem EP1.refl (r : RepE K TB H σ env) : EP1 K TB σ H env H env := ⟨Ext.refl, r, fun _ h => h, fun _ w h => ⟨w, h⟩, fun _ h => h, r.own_lst⟩
theorem EP1.trans (a : EP1 K TB σ H env H1 env1) (b : EP1 K TB σ H1 env1 H2 env2) : EP1 K TB σ H env H2 env2 :=
  ⟨a.ext.trans b.ext fun c _ _ z => a.sub c z, b.rep, fun c z => a.sub c (b.sub c z), fun i w h => let ⟨w', h'⟩ := a.asg i w h; b.asg i w' h', fun c h => a.gone c (b.gone c h), a.base⟩
theorem EP1.stay (a : EP1 K TB σ H env H' env') : Stay H H' := a.ext.stay a.base
end
end Wd
/-! Wd 3: what the interpreter says is what the rules give: expressions. -/
namespace Wd
open PySem PySem.Spec PyProof.Rows L2
abbrev WEx := Nat → Option Addr → Hp → Prop
section
variable {K : PySem.W.Frag} {TB : TL} {W : WEx} {σ : L2.St} {α β γ δ : Type}
def SndAt (K : PySem.W.Frag) (TB : TL) (W : WEx) (σ : L2.St) (H0 : Hp) (env0 : DEnv) (p : (β → Hp → Prop) → Prop) (r : R α) (Rl : Hp → DEnv → β → α → Prop) : Prop :=
  (∀ a env', r = .ok a env' → ∀ Q : β → Hp → Prop, (∀ b H', EP1 K TB σ H0 env0 H' env' → Rl H' env' b a → Q b H') → p Q) ∧
  (∀ k, r = .exc k → (∀ d H', Ext (OwnA env0 σ) H0 H' → LamX.Tabs TB H' → W k d H') → ∀ Q : β → Hp → Prop, p Q)
def Snd (K : PySem.W.Frag) (TB : TL) (W : WEx) (t : L2.St → Hp → (β → Hp → Prop) → Prop) (f : DEnv → R α) (Rl : Hp → Hp → L2.St → DEnv → β → α → Prop) : Prop :=
  ∀ σ H env, RepE K TB H σ env → SndAt K TB W σ H env (t σ H) (f env) (fun H' env' b a => Rl H H' σ env' b a)
theorem sa_bad {H0 : Hp} {env0 : DEnv} {p : (β → Hp → Prop) → Prop} {Rl : Hp → DEnv → β → α → Prop} : SndAt K TB W σ H0 env0 p .bad Rl := ⟨fun _ _ e => (nomatch e), fun _ e => (nomatch e)⟩
theorem sa_ok {H0 H1 : Hp} {env0 env1 : DEnv} {Rl : Hp → DEnv → β → α → Prop} {a : α} {b : β} (e : EP1 K TB σ H0 env0 H1 env1) (h : Rl H1 env1 b a) : SndAt K TB W σ H0 env0 (fun Q => Q b H1) (.ok a env1) Rl :=
  ⟨fun a' env' q Q k => by cases q; exact k b H1 e h, fun _ q => (nomatch q)⟩
theorem sa_bind {H0 : Hp} {env0 : DEnv} {pa : (γ → Hp → Prop) → Prop} {ra : R δ} {Ra : Hp → DEnv → γ → δ → Prop} {pu : γ → Hp → (β → Hp → Prop) → Prop} {g : δ → DEnv → R α} {Rl : Hp → DEnv → β → α → Prop}
    (ha : SndAt K TB W σ H0 env0 pa ra Ra) (hb : ∀ x a H1 env1, EP1 K TB σ H0 env0 H1 env1 → Ra H1 env1 x a → SndAt K TB W σ H0 env0 (pu x H1) (g a env1) Rl) :
    SndAt K TB W σ H0 env0 (fun Q => pa fun x H1 => pu x H1 Q) (ra.bind g) Rl := by
  cases ra with
  | bad => exact sa_bad
  | exc k => exact ⟨fun _ _ e => (nomatch e), fun k' e hw Q => by cases e; exact ha.2 k rfl hw _⟩
  | ok a env1 =>
    refine ⟨fun b env2 e Q hq => ha.1 a env1 rfl _ fun x H1 e1 r1 => (hb x a H1 env1 e1 r1).1 b env2 e Q hq, fun k e hw Q => ha.1 a env1 rfl _ fun x H1 e1 r1 => (hb x a H1 env1 e1 r1).2 k e hw Q⟩
theorem sa_bindE {H0 : Hp} {env0 : DEnv} {pa : (γ → Hp → Prop) → Prop} {ra : R δ} {Ra : Hp → DEnv → γ → δ → Prop} {pu : γ → Hp → (β → Hp → Prop) → Prop} {g : δ → DEnv → R α} {Rl : Hp → DEnv → β → α → Prop}
    (ha : SndAt K TB W σ H0 env0 pa ra Ra) (hb : ∀ x a H1 env1, ra = .ok a env1 → EP1 K TB σ H0 env0 H1 env1 → Ra H1 env1 x a → SndAt K TB W σ H0 env0 (pu x H1) (g a env1) Rl) :
    SndAt K TB W σ H0 env0 (fun Q => pa fun x H1 => pu x H1 Q) (ra.bind g) Rl := by
  refine sa_bind (Ra := fun H1 env1 x a => ra = .ok a env1 ∧ Ra H1 env1 x a) ⟨fun a env' e Q k => ha.1 a env' e Q fun b H' e1 r1 => k b H' e1 ⟨e, r1⟩, ha.2⟩ fun x a H1 env1 e1 r1 => hb x a H1 env1 r1.1 e1 r1.2
theorem sa_mono {H0 : Hp} {env0 : DEnv} {p : (β → Hp → Prop) → Prop} {r : R α} {Rl Rl' : Hp → DEnv → β → α → Prop} (h : SndAt K TB W σ H0 env0 p r Rl) (m : ∀ H' env' b a, EP1 K TB σ H0 env0 H' env' → Rl H' env' b a → Rl' H' env' b a) : SndAt K TB W σ H0 env0 p r Rl' :=
  ⟨fun a env' e Q k => h.1 a env' e Q fun b H' e1 r1 => k b H' e1 (m _ _ _ _ e1 r1), h.2⟩
/-- a part, begun later -/
theorem Snd.at {t : L2.St → Hp → (β → Hp → Prop) → Prop} {f : DEnv → R α} {Rl : Hp → Hp → L2.St → DEnv → β → α → Prop} (h : Snd K TB W t f Rl) {H0 H1 : Hp} {env0 env1 : DEnv} (e : EP1 K TB σ H0 env0 H1 env1) :
    SndAt K TB W σ H0 env0 (t σ H1) (f env1) (fun H' env' b a => EP1 K TB σ H1 env1 H' env' ∧ Rl H1 H' σ env' b a) := by
  obtain ⟨h1, h2⟩ := h σ H1 env1 e.rep
  refine ⟨fun a env' q Q k => h1 a env' q Q fun b H' e1 r1 => k b H' (e.trans e1) ⟨e1, r1⟩, fun k q hw Q => h2 k q (fun d H' x y => hw d H' (e.ext.trans x fun c _ _ z => e.sub c z) y) Q⟩
theorem lift1_sa {H0 : Hp} {env0 env1 : DEnv} {p : (β → Hp → Prop) → Prop} {o : Option α} {Rl : Hp → DEnv → β → α → Prop} (h : ∀ a, o = some a → SndAt K TB W σ H0 env0 p (.ok a env1) Rl) : SndAt K TB W σ H0 env0 p (lift1 o env1) Rl := by
  cases o with
  | none => exact sa_bad
  | some a => exact h a rfl
/-- by the rule alone: an operator that makes nothing, or something new -/
theorem sa_val {H0 : Hp} {env0 env1 : DEnv} {Rl : Hp → DEnv → β → α → Prop} {a : α} {p : (β → Hp → Prop) → Prop} (h : ∀ Q : β → Hp → Prop, (∀ b H', EP1 K TB σ H0 env0 H' env1 → Rl H' env1 b a → Q b H') → p Q) : SndAt K TB W σ H0 env0 p (.ok a env1) Rl :=
  ⟨fun a' env' q Q k => by cases q; exact h Q k, fun _ q => (nomatch q)⟩
/-! ### heaps that grow by one object -/
theorem RV.upd {H : Hp} {a : Addr} {o : HO} {x : V} {v : DV} (h : RV K H x v) (n : H a = none) : RV K (upd H a o) x v := by
  have st : Stay H (L2.upd H a o) := ⟨fun b xs e => by rw [upd_ne (ne_of_none e n)]; exact e, fun b ob u e => by rw [upd_ne (ne_of_none e n)]; exact e⟩
  cases v with
  | d y => exact Fz.stay st h
  | own ys =>
    obtain ⟨b, vs, rfl, e, al⟩ := h
    exact ⟨b, vs, rfl, by rw [upd_ne (ne_of_none e n)]; exact e, FzAll.stay st al⟩
theorem stay_new {H : Hp} {a : Addr} {o : HO} (n : H a = none) : Stay H (upd H a o) := ⟨fun b xs e => by rw [upd_ne (ne_of_none e n)]; exact e, fun b ob u e => by rw [upd_ne (ne_of_none e n)]; exact e⟩
theorem RepE.new {H : Hp} {a : Addr} {o : HO} {env : DEnv} (r : RepE K TB H σ env) (n : H a = none) : RepE K TB (upd H a o) σ env :=
  ⟨r.len, fun i v e => let ⟨x, h, q⟩ := r.at_ i v e; ⟨x, h, q.upd n⟩, r.inj, tabs_upd r.tabs (.inl n)⟩
theorem EP1.new {H0 H1 : Hp} {env0 env1 : DEnv} {a : Addr} {o : HO} (e : EP1 K TB σ H0 env0 H1 env1) (n : H1 a = none) : EP1 K TB σ H0 env0 (upd H1 a o) env1 :=
  ⟨fun b u q h t => by rw [upd_ne (fun z => by rw [z, e.gone a n] at q; cases q)]; exact e.ext b u q h t, e.rep.new n, e.sub, e.asg, fun b q => by
    by_cases hb : b = a
    · rw [hb, upd_same] at q; cases q
    · rw [upd_ne hb] at q; exact e.gone b q, e.base⟩
/-- a fresh list, not owned by a name, is locked -/
theorem EP1.lockT {H0 H1 : Hp} {env0 env1 : DEnv} {a : Addr} {o : Obj} {xs : List V} (e : EP1 K TB σ H0 env0 H1 env1) (n : H0 a = none) (h : H1 a = some (.lst xs)) : EP1 K TB σ H0 env0 (upd H1 a (.frz o (.lst xs))) env1 ∧ Stay H1 (upd H1 a (.frz o (.lst xs))) := by
  have ne : ∀ b u, H1 b = some u → (∀ ys, u ≠ .lst ys) → b ≠ a := fun b u q w z => by
    rw [z, h] at q
    exact w xs (Option.some.inj q).symm
  have st : Stay H1 (upd H1 a (.frz o (.lst xs))) := ⟨fun b ys q => by rw [upd_ne (ne b _ q fun _ z => by cases z)]; exact q, fun b ob u q => by rw [upd_ne (ne b _ q fun _ z => by cases z)]; exact q⟩
  have no : ∀ b, OwnA env1 σ b → b ≠ a := fun b ow z => by
    obtain ⟨ys, q⟩ := e.base b (e.sub b ow)
    rw [z, n] at q
    cases q
  refine ⟨⟨fun b u q hn t => ?_, ⟨e.rep.len, fun i v q => ?_, e.rep.inj, tabs_upd e.rep.tabs (.inr ⟨_, h⟩)⟩, e.sub, e.asg, fun b q => ?_, e.base⟩, st⟩
  · rw [upd_ne (fun z => by rw [z, n] at q; cases q)]
    exact e.ext b u q hn t
  · obtain ⟨x, hx, rv⟩ := e.rep.at_ i v q
    refine ⟨x, hx, ?_⟩
    cases v with
    | d y => exact Fz.stay st rv
    | own ys =>
      obtain ⟨b, vs, rfl, e1, al⟩ := rv
      exact ⟨b, vs, rfl, by rw [upd_ne (no b ⟨i, ys, q, hx⟩)]; exact e1, FzAll.stay st al⟩
  · by_cases hb : b = a
    · rw [hb, upd_same] at q; cases q
    · rw [upd_ne hb] at q; exact e.gone b q
theorem get_set_self {e : DEnv} {i : Nat} {v w : Option DV} (h : e[i]? = some w) : (e.set i v)[i]? = some v := List.getElem?_set_self (List.getElem?_eq_some_iff.mp h).1
theorem get_set_ne {e : DEnv} {i j : Nat} {v : Option DV} (h : j ≠ i) : (e.set i v)[j]? = e[j]? := List.getElem?_set_ne (Ne.symm h)
/-- a name's list is locked -/
theorem EP1.lockN {H0 H1 : Hp} {env0 env1 : DEnv} {i : Nat} {a : Addr} {o : Obj} {ys : List PyData} {xs : List V} (e : EP1 K TB σ H0 env0 H1 env1) (hi : env1[i]? = some (some (DV.own ys))) (hs : σ[i]? = some (some (V.ref a))) (h : H1 a = some (.lst xs)) (al : FzAll K H1 xs ys) :
    EP1 K TB σ H0 env0 (upd H1 a (.frz o (.lst xs))) (env1.set i (some (DV.d (.list ys)))) ∧ Fz K (upd H1 a (.frz o (.lst xs))) (.ref a) (.list ys) ∧ Stay H1 (upd H1 a (.frz o (.lst xs))) := by
  have ne : ∀ b u, H1 b = some u → (∀ ys, u ≠ .lst ys) → b ≠ a := fun b u q w z => by
    rw [z, h] at q
    exact w xs (Option.some.inj q).symm
  have st : Stay H1 (upd H1 a (.frz o (.lst xs))) := ⟨fun b ys q => by rw [upd_ne (ne b _ q fun _ z => by cases z)]; exact q, fun b ob u q => by rw [upd_ne (ne b _ q fun _ z => by cases z)]; exact q⟩
  have ow : OwnA env0 σ a := e.sub a ⟨i, ys, hi, hs⟩
  have fz : Fz K (upd H1 a (.frz o (.lst xs))) (.ref a) (.list ys) := .lst upd_same (FzAll.stay st al)
  have own' : ∀ (j : Nat) (zs : List PyData), (env1.set i (some (DV.d (.list ys))))[j]? = some (some (DV.own zs)) → j ≠ i ∧ env1[j]? = some (some (DV.own zs)) := fun j zs q => by
    by_cases hj : j = i
    · subst hj
      rw [get_set_self hi] at q
      cases q
    · rw [get_set_ne hj] at q
      exact ⟨hj, q⟩
  refine ⟨⟨fun b u q hn t => ?_, ⟨by rw [List.length_set]; exact e.rep.len, fun j v q => ?_, fun j k xs' ys' b q1 q2 s1 s2 => e.rep.inj j k xs' ys' b (own' j _ q1).2 (own' k _ q2).2 s1 s2, tabs_upd e.rep.tabs (.inr ⟨_, h⟩)⟩, fun b q => ?_, fun j w q => ?_, fun b q => ?_, e.base⟩, fz, st⟩
  · rw [upd_ne (fun z => hn (by rw [z]; exact ow))]
    exact e.ext b u q hn t
  · by_cases hj : j = i
    · subst hj
      rw [get_set_self hi] at q
      cases q
      exact ⟨_, hs, fz⟩
    · rw [get_set_ne hj] at q
      obtain ⟨x, hx, rv⟩ := e.rep.at_ j v q
      refine ⟨x, hx, ?_⟩
      cases v with
      | d y => exact Fz.stay st rv
      | own zs =>
        obtain ⟨b, vs, rfl, e1, al'⟩ := rv
        exact ⟨b, vs, rfl, by rw [upd_ne (fun z => hj (e.rep.inj j i zs ys a q hi (by rw [← z]; exact hx) hs))]; exact e1, FzAll.stay st al'⟩
  · obtain ⟨j, zs, q1, q2⟩ := q
    exact e.sub b ⟨j, zs, (own' j zs q1).2, q2⟩
  · obtain ⟨w', h'⟩ := e.asg j w q
    by_cases hj : j = i
    · subst hj
      exact ⟨_, get_set_self h'⟩
    · exact ⟨w', by rw [get_set_ne hj]; exact h'⟩
  · by_cases hb : b = a
    · rw [hb, upd_same] at q; cases q
    · rw [upd_ne hb] at q; exact e.gone b q
/-- the result, never to change from now on -/
theorem frz_gf {H0 H1 : Hp} {env0 env1 env2 : DEnv} {v : V} {pv : PV} {x : PyData} {Pr : Hp → Prop} (e : EP1 K TB σ H0 env0 H1 env1) (h : PR K H0 H1 σ env1 v pv) (q : frz pv env1 = some (x, env2)) (k : ∀ H2, EP1 K TB σ H0 env0 H2 env2 → Stay H1 H2 → Fz K H2 v x → Pr H2) : GF H1 Pr := by
  cases pv with
  | val w =>
    cases w with
    | d y =>
      cases q
      exact .inl (k H1 e (Stay.refl _) h)
    | own ys =>
      cases q
      obtain ⟨a, vs, rfl, e1, al, n⟩ := h
      refine .inr ⟨a, vs, e1, fun o => ?_⟩
      obtain ⟨e2, st⟩ := e.lockT (o := o) n e1
      exact k _ e2 st (.lst upd_same (FzAll.stay st al))
  | slot i =>
    obtain ⟨hs, w, hw⟩ := h
    simp only [frz, hw] at q
    obtain ⟨x', hx', rv⟩ := e.rep.at_ i w hw
    rw [hs] at hx'
    cases hx'
    cases w with
    | d y =>
      cases q
      exact .inl (k H1 e (Stay.refl _) rv)
    | own ys =>
      cases q
      obtain ⟨a, vs, rfl, e1, al⟩ := rv
      refine .inr ⟨a, vs, e1, fun o => ?_⟩
      obtain ⟨e2, fz, st⟩ := e.lockN (o := o) hw hs e1 al
      exact k _ e2 st fz
/-- the result for a name -/
theorem tak_gf {H0 H1 : Hp} {env0 env1 env2 : DEnv} {v : V} {pv : PV} {x : DV} {Pr : Hp → Prop} (e : EP1 K TB σ H0 env0 H1 env1) (h : PR K H0 H1 σ env1 v pv) (q : tak pv env1 = some (x, env2)) (k : ∀ H2, EP1 K TB σ H0 env0 H2 env2 → Stay H1 H2 → PR K H0 H2 σ env2 v (.val x) → Pr H2) : GF H1 Pr := by
  cases pv with
  | val w =>
    cases q
    exact .inl (k H1 e (Stay.refl _) h)
  | slot i =>
    obtain ⟨hs, w, hw⟩ := h
    simp only [tak, hw] at q
    obtain ⟨x', hx', rv⟩ := e.rep.at_ i w hw
    rw [hs] at hx'
    cases hx'
    cases w with
    | d y =>
      cases q
      exact .inl (k H1 e (Stay.refl _) rv)
    | own ys =>
      cases q
      obtain ⟨a, vs, rfl, e1, al⟩ := rv
      refine .inr ⟨a, vs, e1, fun o => ?_⟩
      obtain ⟨e2, fz, st⟩ := e.lockN (o := o) hw hs e1 al
      exact k _ e2 st fz
/-- what a result reads as -/
theorem res_dp {H0 H1 : Hp} {env0 env1 : DEnv} {v : V} {pv : PV} {x : PyData} (e : EP1 K TB σ H0 env0 H1 env1) (h : PR K H0 H1 σ env1 v pv) (q : res pv env1 = some x) : Dp K H1 v x := by
  cases pv with
  | val w =>
    cases w with
    | d y =>
      cases q
      exact Fz.dp h
    | own ys =>
      cases q
      obtain ⟨a, vs, rfl, e1, al, n⟩ := h
      exact .lst (.inl (.inl e1)) al.dp
  | slot i =>
    obtain ⟨hs, w, hw⟩ := h
    simp only [res, hw] at q
    cases q
    obtain ⟨x', hx', rv⟩ := e.rep.at_ i w hw
    rw [hs] at hx'
    cases hx'
    exact rv.dp
/-- a result, later on -/
theorem PR.later {H0 H1 H2 : Hp} {env0 env1 env2 : DEnv} {v : V} {pv : PV} (e : EP1 K TB σ H0 env0 H1 env1) (h : PR K H0 H1 σ env1 v pv) (e2 : EP1 K TB σ H1 env1 H2 env2) : PR K H0 H2 σ env2 v pv := by
  cases pv with
  | val w =>
    cases w with
    | d y => exact Fz.stay e2.stay h
    | own ys =>
      obtain ⟨a, vs, rfl, e1, al, n⟩ := h
      refine ⟨a, vs, rfl, e2.ext a _ e1 (fun z => ?_) (fun _ z => by cases z), FzAll.stay e2.stay al, n⟩
      obtain ⟨ys, q⟩ := e.base a (e.sub a z)
      rw [n] at q
      cases q
  | slot i =>
    obtain ⟨hs, w, hw⟩ := h
    exact ⟨hs, e2.asg i w hw⟩
/-- a part's result, for the whole -/
theorem PR.whole {H0 H1 H2 : Hp} {env0 env1 env2 : DEnv} {v : V} {pv : PV} (e : EP1 K TB σ H0 env0 H1 env1) (h : PR K H1 H2 σ env2 v pv) : PR K H0 H2 σ env2 v pv := by
  cases pv with
  | val w =>
    cases w with
    | d y => exact h
    | own ys =>
      obtain ⟨a, vs, rfl, e1, al, n⟩ := h
      exact ⟨a, vs, rfl, e1, al, e.gone a n⟩
  | slot i => exact h
end
end Wd
/-! Wd 4: operators by data. -/
namespace Wd
open PySem PySem.Spec PyProof.Rows L2
section
variable {K : PySem.W.Frag} {TB : TL} {W : WEx} {σ : L2.St} {H : Hp}
/-- what a value is: frozen, or an owned list -/
def RD (K : PySem.W.Frag) (H : Hp) (v : V) (d : PyData) : Prop := ∃ w : DV, w.data = d ∧ RV K H v w
theorem RD.dp {v : V} {d : PyData} (h : RD K H v d) : Dp K H v d := by
  obtain ⟨w, rfl, r⟩ := h
  exact r.dp
theorem RD.none {v : V} (h : RD K H v .none) : v = .non := by
  obtain ⟨w, e, r⟩ := h
  cases w with
  | d y => cases e; cases r; rfl
  | own ys => cases e
theorem RD.bool {v : V} {b : Bool} (h : RD K H v (.bool b)) : v = .bl b := by
  obtain ⟨w, e, r⟩ := h
  cases w with
  | d y => cases e; cases r; rfl
  | own ys => cases e
theorem RD.int {v : V} {i : Int} (h : RD K H v (.int i)) : v = .int i := by
  obtain ⟨w, e, r⟩ := h
  cases w with
  | d y => cases e; cases r; rfl
  | own ys => cases e
theorem RD.str {v : V} {x : Str} (h : RD K H v (.str x)) : v = .str x := by
  obtain ⟨w, e, r⟩ := h
  cases w with
  | d y => cases e; cases r; rfl
  | own ys => cases e
theorem RD.list {v : V} {xs : List PyData} (h : RD K H v (.list xs)) : ∃ a vs, v = .ref a ∧ SqL K H a vs ∧ FzAll K H vs xs := by
  obtain ⟨w, e, r⟩ := h
  cases w with
  | d y =>
    cases e
    cases r with
    | lst h al => exact ⟨_, _, rfl, .inl (.inr ⟨_, h⟩), al⟩
    | lstK h1 h2 h3 h4 h5 h6 al => exact ⟨_, _, rfl, .inr ⟨_, _, _, h1, h2, h3, h4, h5, h6⟩, al⟩
  | own ys =>
    cases e
    obtain ⟨a, vs, rfl, e1, al⟩ := r
    exact ⟨a, vs, rfl, .inl (.inl e1), al⟩
theorem RD.tuple {v : V} {xs : List PyData} (h : RD K H v (.tuple xs)) : ∃ a vs, v = .ref a ∧ SqT K H a vs ∧ FzAll K H vs xs := by
  obtain ⟨w, e, r⟩ := h
  cases w with
  | d y =>
    cases e
    cases r with
    | tup h al => exact ⟨_, _, rfl, h, al⟩
  | own ys => cases e
theorem res_rd {H0 H1 : Hp} {env0 env1 : DEnv} {v : V} {pv : PV} {x : PyData} (e : EP1 K TB σ H0 env0 H1 env1) (h : PR K H0 H1 σ env1 v pv) (q : res pv env1 = some x) : RD K H1 v x := by
  cases pv with
  | val w =>
    cases w with
    | d y =>
      cases q
      exact ⟨.d _, rfl, h⟩
    | own ys =>
      cases q
      obtain ⟨a, vs, rfl, e1, al, n⟩ := h
      exact ⟨.own ys, rfl, a, vs, rfl, e1, al⟩
  | slot i =>
    obtain ⟨hs, w, hw⟩ := h
    simp only [res, hw] at q
    cases q
    obtain ⟨x', hx', rv⟩ := e.rep.at_ i w hw
    rw [hs] at hx'
    cases hx'
    exact ⟨w, rfl, rv⟩
/-- an operator's result: nothing new, or one new object -/
def Grow (K : PySem.W.Frag) (H H' : Hp) (v : V) : DV → Prop
  | .d z => (H' = H ∨ ∃ p o, H p = none ∧ H' = upd H p o) ∧ Fz K H' v z
  | .own zs => ∃ p vs, v = .ref p ∧ H p = none ∧ H' = upd H p (.lst vs) ∧ FzAll K H' vs zs
theorem grow_d {v : V} {z : PyData} (h : Fz K H v z) : Grow K H H v (.d z) := ⟨.inl rfl, h⟩
theorem grow_tup {p : Addr} {vs : List V} {zs : List PyData} (n : H p = none) (h : FzAll K H vs zs) : Grow K H (upd H p (.tup vs)) (.ref p) (.d (.tuple zs)) := ⟨.inr ⟨p, _, n, rfl⟩, .tup (.inl (.inl upd_same)) (FzAll.stay (stay_new n) h)⟩
theorem grow_lst {p : Addr} {vs : List V} {zs : List PyData} (n : H p = none) (h : FzAll K H vs zs) : Grow K H (upd H p (.lst vs)) (.ref p) (.own zs) := ⟨p, vs, rfl, n, rfl, FzAll.stay (stay_new n) h⟩
theorem EP1.grow {H0 H1 H2 : Hp} {env0 env1 : DEnv} {v : V} {dv : DV} (e : EP1 K TB σ H0 env0 H1 env1) (g : Grow K H1 H2 v dv) : EP1 K TB σ H0 env0 H2 env1 ∧ PR K H0 H2 σ env1 v (.val dv) := by
  cases dv with
  | d z =>
    obtain ⟨rfl | ⟨p, o, n, rfl⟩, h⟩ := g
    · exact ⟨e, h⟩
    · exact ⟨e.new n, h⟩
  | own zs =>
    obtain ⟨p, vs, rfl, n, rfl, h⟩ := g
    exact ⟨e.new n, p, vs, rfl, upd_same, h, e.gone p n⟩
def OpD (K : PySem.W.Frag) (r : R2) (f : PyData → PyData → Option DV) : Prop :=
  ∀ (H : Hp) (x y : V) (dx dy : PyData) (dv : DV), RD K H x dx → RD K H y dy → f dx dy = some dv → ∀ Q : VK, (∀ v H', Grow K H H' v dv → Q v H') → r x y H Q
/-! #### list + list, list * int, of any kind -/
def rCatL (K : PySem.W.Frag) : R2 := fun x y H Q => ∃ l b xs zs, x = .ref l ∧ y = .ref b ∧ SqL K H l xs ∧ SqL K H b zs ∧ xs.length + zs.length ≤ sizeLine ∧ ∀ p, H p = none → Q (.ref p) (upd H p (.lst (xs ++ zs)))
theorem op_catL {X : Cx} : OpR X (binaryOp .Add) (rCatL X.K) := by
  intro pins s σ H x y v u Q I rx ry h
  obtain ⟨l, b, xs, zs, rfl, rfl, hH, hB, hz, q⟩ := h
  cases rx
  cases ry
  obtain ⟨its, r, ⟨⟨cls, dd, data, sl⟩, n, ho, hc, hdd, hd⟩, z⟩ := I.list hH
  obtain ⟨its2, r2, ⟨⟨cls2, dd2, data2, sl2⟩, n2, ho2, hc2, hdd2, hd2⟩, z2⟩ := I.list hB
  simp only at hc hd hc2 hd2
  subst hc hd hc2 hd2
  have hl := r.length
  have hl2 := r2.length
  refine concat_meets ⟨_, ho, rfl⟩ ⟨_, ho2, rfl⟩ noFill_list_add seq_list_add PySem.F.slot_list_add PySem.F.entry_list_add (PySem.F.args_list_add_2 _ _) (list_addW l b its.toArray its2.toArray n n2 dd dd2 sl sl2 (by rw [List.size_toArray, List.size_toArray]; omega)) ⟨ho, ho2, ?_⟩
  have ea : its.toArray ++ its2.toArray = (its ++ its2).toArray := by simp
  rw [ea]
  exact ⟨.ref _, _, I.lnew (t' := s.toks) (r.append r2) (by rw [List.length_append]; omega), rfl, q _ I.fresh⟩
def rAddA (K : PySem.W.Frag) : R2 := fun x y H Q => (rI0 fun i j => .int (i + j)) x y H Q ∨ (∃ i j, x = .str i ∧ y = .str j ∧ i.length + j.length ≤ sizeLine ∧ Q (.str (i ++ j)) H) ∨ rCatA K x y H Q ∨ rCatL K x y H Q
theorem op_addA {X : Cx} : OpR X (binaryOp .Add) (rAddA X.K) := OpR.or op_add (OpR.or op_add_str (OpR.or op_catA op_catL))
theorem od_add : OpD K (rAddA K) (op2 .add) := by
  intro H x y dx dy dv hx hy e Q q
  cases dx <;> cases dy <;> simp only [op2, reduceCtorEq] at e
  · cases hx.int
    cases hy.int
    cases e
    exact .inl ⟨_, _, rfl, rfl, q _ _ (grow_d (.int _))⟩
  · cases hx.str
    cases hy.str
    split at e
    · cases e
      exact .inr (.inl ⟨_, _, rfl, rfl, by assumption, q _ _ (grow_d (.str _))⟩)
    · cases e
  · obtain ⟨a, vs, rfl, ha, fa⟩ := hx.list
    obtain ⟨b, ws, rfl, hb, fb⟩ := hy.list
    split at e
    · cases e
      rename_i hz
      exact .inr (.inr (.inr ⟨a, b, vs, ws, rfl, rfl, ha, hb, by rw [fa.length, fb.length]; exact hz, fun p n => q _ _ (grow_lst n (fa.append fb))⟩))
    · cases e
  · obtain ⟨a, vs, rfl, ha, fa⟩ := hx.tuple
    obtain ⟨b, ws, rfl, hb, fb⟩ := hy.tuple
    split at e
    · cases e
      rename_i hz
      refine .inr (.inr (.inl ⟨a, b, vs, ws, rfl, rfl, ha, hb, by rw [fa.length, fb.length]; exact hz, fun e0 => ?_, fun _ e0 => ?_, fun _ _ p n => q _ _ (grow_tup n (fa.append fb))⟩))
      · subst e0
        cases fa
        exact q _ _ (grow_d (.tup hb fb))
      · subst e0
        cases fb
        rw [List.append_nil] at q
        exact q _ _ (grow_d (.tup ha fa))
    · cases e
theorem od_sub : OpD K (rI0 fun i j => .int (i - j)) (op2 .sub) := by
  intro H x y dx dy dv hx hy e Q q
  cases dx <;> cases dy <;> simp only [op2, reduceCtorEq] at e
  cases hx.int
  cases hy.int
  cases e
  exact ⟨_, _, rfl, rfl, q _ _ (grow_d (.int _))⟩
def CDivA (_ j : Int) : Prop := j ≠ 0 ∧ j.natAbs.log2 < 9000
theorem op_fdivA {X : Cx} : OpR X (binaryOp .FloorDiv) (rI CDivA fun i j => .int (i.fdiv j)) := opI fun i j _ _ _ _ _ hc q => floordiv_int hc.1 q (.inl (PyProof.noPylong_of_log2 hc.2))
theorem od_fdiv : OpD K (rI CDivA fun i j => .int (i.fdiv j)) (op2 .fdiv) := by
  intro H x y dx dy dv hx hy e Q q
  cases dx <;> cases dy <;> simp only [op2, reduceCtorEq] at e
  cases hx.int
  cases hy.int
  split at e
  · cases e
    rename_i h
    simp only [divOk, Bool.and_eq_true, decide_eq_true_eq] at h
    exact ⟨_, _, rfl, rfl, h, q _ _ (grow_d (.int _))⟩
  · cases e
theorem od_mod : OpD K (rI (fun _ j => j ≠ 0) fun i j => .int (i.fmod j)) (op2 .mod) := by
  intro H x y dx dy dv hx hy e Q q
  cases dx <;> cases dy <;> simp only [op2, reduceCtorEq] at e
  cases hx.int
  cases hy.int
  split at e
  · cases e
    rename_i h
    exact ⟨_, _, rfl, rfl, h, q _ _ (grow_d (.int _))⟩
  · cases e
theorem od_pow : OpD K (rI CPow fun i j => .int (i ^ j.toNat)) (op2 .pow) := by
  intro H x y dx dy dv hx hy e Q q
  cases dx <;> cases dy <;> simp only [op2, reduceCtorEq] at e
  cases hx.int
  cases hy.int
  split at e
  · cases e
    rename_i h
    exact ⟨_, _, rfl, rfl, h, q _ _ (grow_d (.int _))⟩
  · cases e
end
end Wd
/-! Wd 5: expressions, one by one. -/
namespace Wd
open PySem PySem.Spec PyProof.Rows L2
section
variable {X : Cx} {TB : TL} {W : WEx}
def SoE (X : Cx) (TB : TL) (W : WEx) (e : Expr) (f : DEnv → R PV) : Prop := ∃ t, PE X e t ∧ Snd X.K TB W t f (fun H H' σ env' v pv => PR X.K H H' σ env' v pv)
def SoT (X : Cx) (TB : TL) (W : WEx) (e : Expr) (f : DEnv → R Bool) : Prop := ∃ t, PT X e t ∧ Snd X.K TB W t f (fun _ _ _ _ b a => b = a)
def SoA (X : Cx) (TB : TL) (W : WEx) (es : List Expr) (f : DEnv → R (List PyData)) : Prop := ∃ t, PA X es t ∧ Snd X.K TB W t f (fun _ H' _ _ vs xs => FzAll X.K H' vs xs)
inductive RDAll (K : PySem.W.Frag) (H : Hp) : List V → List PyData → Prop
  | nil : RDAll K H [] []
  | cons {v : V} {vs : List V} {d : PyData} {ds : List PyData} : RD K H v d → RDAll K H vs ds → RDAll K H (v :: vs) (d :: ds)
def SoP (X : Cx) (TB : TL) (W : WEx) (es : List Expr) (f : DEnv → R (List PyData)) : Prop := ∃ t, PA X es t ∧ Snd X.K TB W t f (fun _ H' _ _ vs xs => RDAll X.K H' vs xs)
def SoO (X : Cx) (TB : TL) (W : WEx) (e : Option Expr) (f : DEnv → R (Option Int)) : Prop := ∃ t, PO X e t ∧ Snd X.K TB W t f (fun _ _ _ _ b a => b = a)
variable {O : Orc}
theorem so_var {i : Nat} {x : Str} {pos : Pos} (hN : X.N[i]? = some x) (hv : Vis X.env.scope x) (hd : (x == ("__debug__" : Str)) = false) (hcd : (x == ("__classdict__" : Str)) = false) : SoE X TB W (.Name x pos) (ev O (.var i)) := by
  refine ⟨_, pe_var hN hv hd hcd, fun σ H env r => ?_⟩
  simp only [ev]
  split
  · rename_i v h
    obtain ⟨y, hy, rv⟩ := r.at_ i v h
    exact sa_val fun Q k => ⟨y, hy, k y H (EP1.refl r) ⟨hy, v, h⟩⟩
  · exact sa_bad
theorem so_int {i : Int} {j pos} : SoE X TB W (.Constant (.int i) j pos) (ev O (.int i)) := ⟨_, pe_int, fun σ H env r => sa_val fun Q k => k (.int i) H (EP1.refl r) (Fz.int i)⟩
theorem so_str {x : Str} {j pos} : SoE X TB W (.Constant (.str x) j pos) (ev O (.str x)) := ⟨_, pe_str, fun σ H env r => sa_val fun Q k => k (.str x) H (EP1.refl r) (Fz.str x)⟩
theorem so_bl {b : Bool} {j pos} : SoE X TB W (.Constant (.bool b) j pos) (ev O (.bl b)) := ⟨_, pe_bl, fun σ H env r => sa_val fun Q k => k (.bl b) H (EP1.refl r) (Fz.bl b)⟩
theorem so_non {j pos} : SoE X TB W (.Constant .none j pos) (ev O .non) := ⟨_, pe_non, fun σ H env r => sa_val fun Q k => k .non H (EP1.refl r) Fz.non⟩
/-- a constant of the module -/
theorem so_glo {x : Str} {k : Nat} {d : PyData} {v : V} {u : Value} {pos : Pos} (hO : O.glo[k]? = some d) (hg : Gl X x) (hm : X.mg x = some u) (r : RelV v u) (hz : ∀ H, Fz X.K H v d) (hd : (x == ("__debug__" : Str)) = false) : SoE X TB W (.Name x pos) (ev O (.glo k)) := by
  refine ⟨_, pe_glob hg hm r hd, fun σ H env re => ?_⟩
  simp only [ev, hO, Option.map_some, lift1]
  exact sa_val fun Q k => k v H (EP1.refl re) (hz H)
section
variable {a b : Expr} {fa fb : DEnv → R PV} {pos : Pos}
theorem so_bin {o : Operator} {r : R2} {f : PyData → PyData → Option DV} (ho : OpR X (binaryOp o) r) (od : OpD X.K r f) (ha : SoE X TB W a fa) (hb : SoE X TB W b fb) :
    SoE X TB W (.BinOp a o b pos) (fun e => (fa e).bind fun pa e1 => (fb e1).bind fun pb e2 => lift1 ((res pa e2).bind fun x => (res pb e2).bind fun y => (f x y).map .val) e2) := by
  obtain ⟨ta, pa, sa⟩ := ha
  obtain ⟨tb, pb, sb⟩ := hb
  refine ⟨_, pe_op ho pa pb, fun σ H env re => ?_⟩
  show SndAt X.K TB W σ H env (fun Q => ta σ H fun x H1 => tb σ H1 fun y H2 => r x y H2 Q) _ _
  refine sa_bind (sa σ H env re) fun x pa H1 env1 e1 r1 => ?_
  refine sa_bind (sb.at e1) fun y pb H2 env2 e2 ⟨e12, r2⟩ => ?_
  refine lift1_sa fun dv hdv => ?_
  simp only [Option.bind_eq_some_iff, Option.map_eq_some_iff] at hdv
  obtain ⟨dx, hx, dy, hy, v, hv, rfl⟩ := hdv
  refine sa_val fun Q k => od H2 x y dx dy v (res_rd e2 (r1.later e1 e12) hx) (res_rd e2 (r2.whole e1) hy) hv Q fun z H3 g => ?_
  obtain ⟨e3, r3⟩ := e2.grow g
  exact k z H3 e3 r3
theorem so_rep (ha : SoE X TB W a fa) (hb : SoE X TB W b fb) :
    SoE X TB W (.BinOp a .Mult b pos) (fun e => (fa e).bind fun pa e1 => (fb e1).bind fun pb e2 => match pa, res pb e2 with
      | .val (.own xs), some (.int k) => if -(2 ^ 63) ≤ k ∧ k < 2 ^ 63 ∧ xs.length * k.toNat ≤ sizeLine then .ok (.val (.own (List.replicate k.toNat xs).flatten)) e2 else .bad
      | _, _ => .bad) := by
  obtain ⟨ta, pa, sa⟩ := ha
  obtain ⟨tb, pb, sb⟩ := hb
  refine ⟨_, pe_op op_rep pa pb, fun σ H env re => ?_⟩
  show SndAt X.K TB W σ H env (fun Q => ta σ H fun x H1 => tb σ H1 fun y H2 => rRep x y H2 Q) _ _
  refine sa_bind (sa σ H env re) fun x pa H1 env1 e1 r1 => ?_
  refine sa_bind (sb.at e1) fun y pb H2 env2 e2 ⟨e12, r2⟩ => ?_
  split
  · rename_i xs k hk
    split
    · rename_i hz
      obtain ⟨p, vs, rfl, h1, al, n⟩ := r1.later e1 e12
      cases (res_rd e2 (r2.whole e1) hk).int
      refine sa_val fun Q kk => ⟨p, k, vs, rfl, rfl, h1, hz.1, hz.2.1, by rw [al.length]; exact hz.2.2, fun q nq => ?_⟩
      obtain ⟨e3, r3⟩ := e2.grow (grow_lst nq (al.rep k.toNat))
      exact kk _ _ e3 r3
    · exact sa_bad
  · exact sa_bad
theorem so_neg (ha : SoE X TB W a fa) : SoE X TB W (.UnaryOp .USub a pos) (fun e => (fa e).bind fun pa e1 => lift1 ((res pa e1).bind fun x => (neg1 x).map .val) e1) := by
  obtain ⟨ta, pa, sa⟩ := ha
  refine ⟨_, pe_un un_neg pa, fun σ H env re => ?_⟩
  show SndAt X.K TB W σ H env (fun Q => ta σ H fun x H1 => (rU fun i => V.int (-i)) x H1 Q) _ _
  refine sa_bind (sa σ H env re) fun x pa H1 env1 e1 r1 => ?_
  refine lift1_sa fun dv hdv => ?_
  simp only [Option.bind_eq_some_iff, Option.map_eq_some_iff] at hdv
  obtain ⟨dx, hx, v, hv, rfl⟩ := hdv
  cases dx <;> simp only [neg1, reduceCtorEq] at hv
  cases hv
  cases (res_rd e1 r1 hx).int
  exact sa_val fun Q k => ⟨_, rfl, k _ H1 e1 (Fz.int _)⟩
/-- a test, as a value -/
theorem so_ife {c : Expr} {fc : DEnv → R Bool} (hc : SoT X TB W c fc) (ha : SoE X TB W a fa) (hb : SoE X TB W b fb) : SoE X TB W (.IfExp c a b pos) (fun e => (fc e).bind fun t e1 => if t then fa e1 else fb e1) := by
  obtain ⟨tc, pc, sc⟩ := hc
  obtain ⟨ta, pa, sa⟩ := ha
  obtain ⟨tb, pb, sb⟩ := hb
  refine ⟨_, pe_ifExp pc pa pb, fun σ H env re => ?_⟩
  show SndAt X.K TB W σ H env (fun Q => tc σ H fun c H1 => if c = true then ta σ H1 Q else tb σ H1 Q) _ _
  refine sa_bind (sc σ H env re) fun x t H1 env1 e1 r1 => ?_
  cases r1
  cases x with
  | true => exact sa_mono (sa.at e1) fun H' env' y pv e2 ⟨e12, r2⟩ => r2.whole e1
  | false => exact sa_mono (sb.at e1) fun H' env' y pv e2 ⟨e12, r2⟩ => r2.whole e1
theorem so_idx {i : Expr} {fi : DEnv → R PV} (hs : PlainIx i) (ha : SoE X TB W a fa) (hi : SoE X TB W i fi) :
    SoE X TB W (.Subscript a i pos) (fun e => (fa e).bind fun pa e1 => (fi e1).bind fun pi e2 => lift1 ((res pa e2).bind fun x => (res pi e2).bind fun y => (ixd x y).map .val) e2) := by
  obtain ⟨ta, pa, sa⟩ := ha
  obtain ⟨ti, pi, si⟩ := hi
  refine ⟨_, pe_ix ix_seq pa pi hs, fun σ H env re => ?_⟩
  show SndAt X.K TB W σ H env (fun Q => ta σ H fun x H1 => ti σ H1 fun y H2 => rIx X.K x y H2 Q) _ _
  refine sa_bind (sa σ H env re) fun x pa H1 env1 e1 r1 => ?_
  refine sa_bind (si.at e1) fun y pi H2 env2 e2 ⟨e12, r2⟩ => ?_
  refine lift1_sa fun dv hdv => ?_
  simp only [Option.bind_eq_some_iff, Option.map_eq_some_iff] at hdv
  obtain ⟨dx, hx, dy, hy, v, hv, rfl⟩ := hdv
  have rx := res_rd e2 (r1.later e1 e12) hx
  have ry := res_rd e2 (r2.whole e1) hy
  have at_of : ∀ {vs : List V} {ds : List PyData} {i : Int} {d : PyData}, FzAll X.K H2 vs ds → atI ds i = some d → ∃ w, atI vs i = some w ∧ Fz X.K H2 w d := fun {vs ds i d} al e => by
    unfold atI at e ⊢
    rw [al.length]
    cases q : ixN ds.length i with
    | none => rw [q] at e; cases e
    | some j =>
      rw [q] at e
      exact al.get e
  cases dx <;> cases dy <;> simp only [ixd, reduceCtorEq] at hv
  · rename_i z i
    cases rx.str
    cases ry.int
    split at hv
    · rename_i hz
      rw [Option.map_eq_some_iff] at hv
      obtain ⟨c, hc, rfl⟩ := hv
      exact sa_val fun Q k => .inr (.inr ⟨z, i, c, rfl, rfl, hz, hc, k _ H2 e2 (Fz.str _)⟩)
    · cases hv
  · cases ry.int
    obtain ⟨p, vs, rfl, h1, al⟩ := rx.list
    rw [Option.map_eq_some_iff] at hv
    obtain ⟨d, hd, rfl⟩ := hv
    obtain ⟨w, hw, fw⟩ := at_of al hd
    exact sa_val fun Q k => .inl ⟨p, vs, _, w, rfl, rfl, h1, hw, k _ H2 e2 fw⟩
  · cases ry.int
    obtain ⟨p, vs, rfl, h1, al⟩ := rx.tuple
    rw [Option.map_eq_some_iff] at hv
    obtain ⟨d, hd, rfl⟩ := hv
    obtain ⟨w, hw, fw⟩ := at_of al hd
    exact sa_val fun Q k => .inr (.inl ⟨p, vs, _, w, rfl, rfl, h1, hw, k _ H2 e2 fw⟩)
end
section
variable {e a : Expr} {es : List Expr} {f fa : DEnv → R PV} {fs : DEnv → R (List PyData)} {pos : Pos}
theorem so_nilA : SoA X TB W [] (fun e => .ok [] e) := ⟨_, pa_nil, fun σ H env re => sa_val fun Q k => k [] H (EP1.refl re) .nil⟩
theorem so_consA (hs : starEach (e :: es) X.env = (false, eval e X.env) :: starEach es X.env) (he : SoE X TB W e f) (hr : SoA X TB W es fs) :
    SoA X TB W (e :: es) (fun e => (f e).bind fun p e1 => match frz p e1 with
      | some (x, e2) => (fs e2).bind fun xs e3 => .ok (x :: xs) e3
      | none => .bad) := by
  obtain ⟨te, pe, se⟩ := he
  obtain ⟨tr, pr, sr⟩ := hr
  refine ⟨_, pa_cons (pe_gf pe) pr hs, fun σ H env re => ?_⟩
  show SndAt X.K TB W σ H env (fun Q => te σ H fun x H1 => GF H1 fun H2 => tr σ H2 fun xs H3 => Q (x :: xs) H3) _ _
  refine sa_bind (se σ H env re) fun x p H1 env1 e1 r1 => ?_
  cases q : frz p env1 with
  | none => exact sa_bad
  | some w =>
    obtain ⟨y, env2⟩ := w
    have go : ∀ H2, EP1 X.K TB σ H env H2 env2 → Fz X.K H2 x y → SndAt X.K TB W σ H env (fun Q : List V → Hp → Prop => tr σ H2 fun xs H3 => Q (x :: xs) H3) ((fs env2).bind fun xs e3 => .ok (y :: xs) e3) (fun H' _ vs xs => FzAll X.K H' vs xs) := fun H2 e2 fz => by
      refine sa_bind (sr.at e2) fun xs ds H3 env3 e3 ⟨e23, r3⟩ => ?_
      exact sa_val fun Q k => k _ H3 e3 (.cons (Fz.stay e23.stay fz) r3)
    refine ⟨fun a env' hq Q k => frz_gf e1 r1 q fun H2 e2 _ fz => (go H2 e2 fz).1 a env' hq Q k, fun k hq hw Q => frz_gf e1 r1 q fun H2 e2 _ fz => (go H2 e2 fz).2 k hq hw Q⟩
theorem RDAll.length {K : PySem.W.Frag} {H : Hp} : ∀ {vs : List V} {ds : List PyData}, RDAll K H vs ds → vs.length = ds.length
  | _, _, .nil => rfl
  | _, _, .cons _ r => congrArg (· + 1) (RDAll.length r)
theorem so_nilP : SoP X TB W [] (fun e => .ok [] e) := ⟨_, pa_nil, fun σ H env re => sa_val fun Q k => k [] H (EP1.refl re) .nil⟩
theorem so_consP (hs : starEach (e :: es) X.env = (false, eval e X.env) :: starEach es X.env) (he : SoE X TB W e f) (hr : SoP X TB W es fs) :
    SoP X TB W (e :: es) (fun e => (f e).bind fun p e1 => (fs e1).bind fun xs e2 => lift1 ((res p e2).map (· :: xs)) e2) := by
  obtain ⟨te, pe, se⟩ := he
  obtain ⟨tr, pr, sr⟩ := hr
  refine ⟨_, pa_cons pe pr hs, fun σ H env re => ?_⟩
  show SndAt X.K TB W σ H env (fun Q => te σ H fun x H1 => tr σ H1 fun xs H2 => Q (x :: xs) H2) _ _
  refine sa_bind (se σ H env re) fun x p H1 env1 e1 r1 => ?_
  refine sa_bind (sr.at e1) fun xs ds H2 env2 e2 ⟨e12, r2⟩ => ?_
  refine lift1_sa fun dl hd => ?_
  rw [Option.map_eq_some_iff] at hd
  obtain ⟨d, hd, rfl⟩ := hd
  exact sa_val fun Q k => k _ H2 e2 (.cons (res_rd e2 (r1.later e1 e12) hd) r2)
theorem so_tup {x1} (h : SoA X TB W es fs) : SoE X TB W (.Tuple es x1 pos) (fun e => (fs e).bind fun xs e1 => if xs.length ≤ sizeLine then .ok (.val (.d (.tuple xs))) e1 else .bad) := by
  obtain ⟨t, p, s⟩ := h
  refine ⟨_, pe_tup p, fun σ H env re => ?_⟩
  show SndAt X.K TB W σ H env (fun Q => t σ H fun xs H1 => xs.length ≤ sizeLine ∧ ∀ p, H1 p = none → Q (V.ref p) (upd H1 p (.tup xs))) _ _
  refine sa_bind (s σ H env re) fun vs xs H1 env1 e1 r1 => ?_
  split
  · rename_i hz
    refine sa_val fun Q k => ⟨by rw [r1.length]; exact hz, fun p n => ?_⟩
    obtain ⟨e2, r2⟩ := e1.grow (grow_tup n r1)
    exact k _ _ e2 r2
  · exact sa_bad
theorem so_lst (h : SoA X TB W es fs) : SoE X TB W (.List es pos) (fun e => (fs e).bind fun xs e1 => if xs.length ≤ sizeLine then .ok (.val (.own xs)) e1 else .bad) := by
  obtain ⟨t, p, s⟩ := h
  refine ⟨_, pe_lst p, fun σ H env re => ?_⟩
  show SndAt X.K TB W σ H env (fun Q => t σ H fun xs H1 => xs.length ≤ sizeLine ∧ ∀ p, H1 p = none → Q (V.ref p) (upd H1 p (.lst xs))) _ _
  refine sa_bind (s σ H env re) fun vs xs H1 env1 e1 r1 => ?_
  split
  · rename_i hz
    refine sa_val fun Q k => ⟨by rw [r1.length]; exact hz, fun p n => ?_⟩
    obtain ⟨e2, r2⟩ := e1.grow (grow_lst n r1)
    exact k _ _ e2 r2
  · exact sa_bad
theorem so_noO : SoO X TB W none (fun e => .ok none e) := ⟨_, po_none, fun σ H env re => sa_val fun Q k => k none H (EP1.refl re) rfl⟩
theorem so_soO (h : SoE X TB W e f) : SoO X TB W (some e) (fun e => (f e).bind fun p e1 => match res p e1 with
    | some (.int i) => .ok (some i) e1
    | _ => .bad) := by
  obtain ⟨t, p, s⟩ := h
  refine ⟨_, po_some p, fun σ H env re => ?_⟩
  show SndAt X.K TB W σ H env (fun Q => t σ H fun x H1 => ∃ i, x = V.int i ∧ Q (some i) H1) _ _
  refine sa_bind (s σ H env re) fun v p H1 env1 e1 r1 => ?_
  split
  · rename_i i hi
    cases (res_rd e1 r1 hi).int
    exact sa_val fun Q k => ⟨i, rfl, k (some i) H1 e1 rfl⟩
  · exact sa_bad
theorem cut_fz {K : PySem.W.Frag} {H : Hp} {vs : List V} {ds : List PyData} (al : FzAll K H vs ds) (lo hi : Option Int) : FzAll K H (cutV vs lo hi) (cutD ds lo hi) := by
  unfold cutV cutD
  rw [al.length]
  exact (al.drop _).take _
/-- strs sliced: not yet -/
theorem so_slc {lo hi : Option Expr} {fl fh : DEnv → R (Option Int)} {p2 : Pos} (ha : SoE X TB W a fa) (hl : SoO X TB W lo fl) (hh : SoO X TB W hi fh) :
    SoE X TB W (.Subscript a (.Slice lo hi none p2) pos) (fun e => (fa e).bind fun pa e1 => (fl e1).bind fun l e2 => (fh e2).bind fun h e3 => lift1 ((res pa e3).bind fun x => (slcd x l h).map .val) e3) := by
  obtain ⟨ta, pa, sa⟩ := ha
  obtain ⟨tl, pl, sl⟩ := hl
  obtain ⟨th, ph, sh⟩ := hh
  refine ⟨_, pe_slice (SlR.or sl_list sl_tupA) pa pl ph, fun σ H env re => ?_⟩
  show SndAt X.K TB W σ H env (fun Q => ta σ H fun x H1 => tl σ H1 fun l H2 => th σ H2 fun u H3 => (rSlL X.K x l u H3 Q ∨ rSlA X.K x l u H3 Q)) _ _
  refine sa_bind (sa σ H env re) fun x pa H1 env1 e1 r1 => ?_
  refine sa_bind (sl.at e1) fun l l' H2 env2 e2 ⟨e12, r2⟩ => ?_
  cases r2
  refine sa_bind (sh.at e2) fun h h' H3 env3 e3 ⟨e23, r3⟩ => ?_
  cases r3
  refine lift1_sa fun dv hdv => ?_
  simp only [Option.bind_eq_some_iff, Option.map_eq_some_iff] at hdv
  obtain ⟨dx, hx, v, hv, rfl⟩ := hdv
  have rx := res_rd e3 (r1.later e1 (e12.trans e23)) hx
  cases dx <;> simp only [slcd, reduceCtorEq] at hv
  · cases hv
    obtain ⟨p, vs, rfl, h1, al⟩ := rx.list
    refine sa_val fun Q k => .inl ⟨p, vs, rfl, h1, fun q n => ?_⟩
    obtain ⟨e4, r4⟩ := e3.grow (grow_lst n (cut_fz al l h))
    exact k _ _ e4 r4
  · rename_i ds
    cases hv
    obtain ⟨p, vs, rfl, h1, al⟩ := rx.tuple
    refine sa_val fun Q k => .inr ⟨p, vs, rfl, h1, fun ⟨w1, w2⟩ => ?_, fun _ q n => ?_⟩
    · have e0 : cutD ds l h = ds := by
        unfold cutD
        rw [← al.length, w1, w2]
        show List.take (vs.length - 0) ds = ds
        rw [Nat.sub_zero, al.length]
        exact List.take_length
      exact k _ _ e3 (by rw [e0]; exact .tup h1 al)
    · obtain ⟨e4, r4⟩ := e3.grow (grow_tup n (cut_fz al l h))
      exact k _ _ e4 r4
end
end
end Wd
/-! Wd 6: comparisons, tests, truth. -/
namespace Wd
open PySem PySem.Spec PyProof.Rows L2
section
variable {X : Cx} {TB : TL} {W : WEx}
def CmD (K : PySem.W.Frag) (r : R2) (f : PyData → PyData → Option Bool) : Prop :=
  ∀ (H : Hp) (x y : V) (dx dy : PyData) (b : Bool), RD K H x dx → RD K H y dy → f dx dy = some b → ∀ Q : VK, Q (.bl b) H → r x y H Q
theorem eqd_cases {dx dy : PyData} {b : Bool} (e : eqd dx dy = some b) : (∃ s t, dx = .str s ∧ dy = .str t ∧ decide (s = t) = b) ∨ (eqOk dx dy = true ∧ PyData.eqv dx dy = b) := by
  unfold eqd at e
  split at e
  · exact .inl ⟨_, _, rfl, rfl, Option.some.inj e⟩
  · split at e
    · exact .inr ⟨by assumption, Option.some.inj e⟩
    · cases e
theorem scal_str (s t : Str) : scal (.str s) (.str t) = true := rfl
theorem cd_eq : CmD X.K (fun x y H Q => rEqD X.K x y H Q ∨ rEq x y H Q) (cm2 .eq) := by
  intro H x y dx dy b hx hy e Q q
  rcases eqd_cases e with ⟨s, t, rfl, rfl, h⟩ | ⟨h, h2⟩
  · cases hx.str
    cases hy.str
    refine .inr ⟨scal_str s t, ?_⟩
    have : decide (V.str s = V.str t) = b := by rw [← h]; simp
    rw [this]
    exact q
  · simp only [eqOk, Bool.and_eq_true] at h
    refine .inl ⟨dx, dy, hx.dp, hy.dp, h.1, h.2, ?_⟩
    rw [h2]
    exact q
theorem cd_ne : CmD X.K (fun x y H Q => rNeD X.K x y H Q ∨ rNe x y H Q) (cm2 .ne) := by
  intro H x y dx dy b hx hy e Q q
  have e0 : (eqd dx dy).map (!·) = some b := e
  rw [Option.map_eq_some_iff] at e0
  obtain ⟨c, e1, rfl⟩ := e0
  rcases eqd_cases e1 with ⟨s, t, rfl, rfl, h⟩ | ⟨h, h2⟩
  · cases hx.str
    cases hy.str
    refine .inr ⟨scal_str s t, ?_⟩
    have : decide (V.str s = V.str t) = c := by rw [← h]; simp
    rw [this]
    exact q
  · simp only [eqOk, Bool.and_eq_true] at h
    refine .inl ⟨dx, dy, hx.dp, hy.dp, h.1, h.2, ?_⟩
    rw [h2]
    exact q
theorem cd_lt : CmD X.K (rI0 fun i j => .bl (decide (i < j))) (cm2 .lt) := by
  intro H x y dx dy b hx hy e Q q
  cases dx <;> cases dy <;> simp only [cm2, reduceCtorEq] at e
  cases hx.int
  cases hy.int
  cases e
  exact ⟨_, _, rfl, rfl, q⟩
theorem cd_le : CmD X.K (rI0 fun i j => .bl (decide (i ≤ j))) (cm2 .le) := by
  intro H x y dx dy b hx hy e Q q
  cases dx <;> cases dy <;> simp only [cm2, reduceCtorEq] at e
  cases hx.int
  cases hy.int
  cases e
  exact ⟨_, _, rfl, rfl, q⟩
theorem cd_gt : CmD X.K (rI0 fun i j => .bl (decide (j < i))) (cm2 .gt) := by
  intro H x y dx dy b hx hy e Q q
  cases dx <;> cases dy <;> simp only [cm2, reduceCtorEq] at e
  cases hx.int
  cases hy.int
  cases e
  exact ⟨_, _, rfl, rfl, q⟩
theorem cd_ge : CmD X.K (rI0 fun i j => .bl (decide (j ≤ i))) (cm2 .ge) := by
  intro H x y dx dy b hx hy e Q q
  cases dx <;> cases dy <;> simp only [cm2, reduceCtorEq] at e
  cases hx.int
  cases hy.int
  cases e
  exact ⟨_, _, rfl, rfl, q⟩
theorem cd_in : CmD X.K (rInD X.K) (cm2 .isin) := by
  intro H x y dx dy b hx hy e Q q
  cases dy <;> simp only [cm2, reduceCtorEq] at e
  split at e
  · rename_i h
    simp only [Bool.and_eq_true] at h
    cases e
    exact ⟨dx, _, hx.dp, hy.dp, h.1, h.2, q⟩
  · cases e
theorem cd_notin : CmD X.K (rNotInD X.K) (cm2 .notin) := by
  intro H x y dx dy b hx hy e Q q
  cases dy <;> simp only [cm2, reduceCtorEq] at e
  split at e
  · rename_i h
    simp only [Bool.and_eq_true] at h
    cases e
    exact ⟨dx, _, hx.dp, hy.dp, h.1, h.2, q⟩
  · cases e
/-- the operator's rule, and what it tells -/
def cmOp : Cm → CmpOp
  | .lt => .Lt
  | .le => .LtE
  | .gt => .Gt
  | .ge => .GtE
  | .eq => .Eq
  | .ne => .NotEq
  | .isin => .In
  | .notin => .NotIn
theorem cm_rule (hu : X.A.units + 65 < cLine) : ∀ o : Cm, ∃ r, OpR X (compareOp (cmOp o)) r ∧ CmD X.K r (cm2 o)
  | .lt => ⟨_, op_lt, cd_lt⟩
  | .le => ⟨_, op_le, cd_le⟩
  | .gt => ⟨_, op_gt, cd_gt⟩
  | .ge => ⟨_, op_ge, cd_ge⟩
  | .eq => ⟨_, OpR.or (op_eqD (by omega)) op_eq, cd_eq⟩
  | .ne => ⟨_, OpR.or (op_neD (by omega)) op_ne, cd_ne⟩
  | .isin => ⟨_, op_inD hu, cd_in⟩
  | .notin => ⟨_, op_notInD hu, cd_notin⟩
section
variable {a b c : Expr} {fa fb fc : DEnv → R PV} {pos : Pos} {o p : Cm}
theorem so_cmp (hu : X.A.units + 65 < cLine) (hm : behindInMarks (cmOp o) b = false) (ha : SoE X TB W a fa) (hb : SoE X TB W b fb) :
    SoE X TB W (.Compare a [cmOp o] [b] pos) (fun e => (fa e).bind fun pa e1 => (fb e1).bind fun pb e2 => (lift1 ((res pa e2).bind fun x => (res pb e2).bind fun y => cm2 o x y) e2).bind fun k e3 => .ok (.val (.d (.bool k))) e3) := by
  obtain ⟨ta, pa, sa⟩ := ha
  obtain ⟨tb, pb, sb⟩ := hb
  obtain ⟨r, hr, cd⟩ := cm_rule hu o
  refine ⟨_, pe_cmpR hr pa pb hm, fun σ H env re => ?_⟩
  show SndAt X.K TB W σ H env (fun Q => ta σ H fun x H1 => tb σ H1 fun y H2 => r x y H2 Q) _ _
  refine sa_bind (sa σ H env re) fun x pa H1 env1 e1 r1 => ?_
  refine sa_bind (sb.at e1) fun y pb H2 env2 e2 ⟨e12, r2⟩ => ?_
  cases q : (res pa env2).bind fun x => (res pb env2).bind fun y => cm2 o x y with
  | none => exact sa_bad
  | some k =>
    simp only [Option.bind_eq_some_iff] at q
    obtain ⟨dx, hx, dy, hy, hk⟩ := q
    exact sa_val fun Q kk => cd H2 x y dx dy k (res_rd e2 (r1.later e1 e12) hx) (res_rd e2 (r2.whole e1) hy) hk Q (kk _ H2 e2 (Fz.bl k))
theorem so_cmpT (hu : X.A.units + 65 < cLine) (hm : behindInMarks (cmOp o) b = false) (ha : SoE X TB W a fa) (hb : SoE X TB W b fb) :
    SoT X TB W (.Compare a [cmOp o] [b] pos) (fun e => (fa e).bind fun pa e1 => (fb e1).bind fun pb e2 => lift1 ((res pa e2).bind fun x => (res pb e2).bind fun y => cm2 o x y) e2) := by
  obtain ⟨ta, pa, sa⟩ := ha
  obtain ⟨tb, pb, sb⟩ := hb
  obtain ⟨r, hr, cd⟩ := cm_rule hu o
  refine ⟨_, pt_cmpR hr pa pb hm, fun σ H env re => ?_⟩
  show SndAt X.K TB W σ H env (fun Q => ta σ H fun x H1 => tb σ H1 fun y H2 => r x y H2 fun z H3 => ∃ k, z = V.bl k ∧ Q k H3) _ _
  refine sa_bind (sa σ H env re) fun x pa H1 env1 e1 r1 => ?_
  refine sa_bind (sb.at e1) fun y pb H2 env2 e2 ⟨e12, r2⟩ => ?_
  refine lift1_sa fun k hk => ?_
  simp only [Option.bind_eq_some_iff] at hk
  obtain ⟨dx, hx, dy, hy, hk⟩ := hk
  exact sa_val fun Q kk => cd H2 x y dx dy k (res_rd e2 (r1.later e1 e12) hx) (res_rd e2 (r2.whole e1) hy) hk _ ⟨k, rfl, kk _ H2 e2 rfl⟩
theorem so_chain (hu : X.A.units + 65 < cLine) (hm : lastMarks [cmOp o, cmOp p] [b, c] = false) (ha : SoE X TB W a fa) (hb : SoE X TB W b fb) (hc : SoE X TB W c fc) :
    SoE X TB W (.Compare a [cmOp o, cmOp p] [b, c] pos) (fun e => (fa e).bind fun pa e1 => (fb e1).bind fun pb e2 => (lift1 ((res pa e2).bind fun x => (res pb e2).bind fun y => cm2 o x y) e2).bind fun k e2 => if k then (fc e2).bind fun pc e3 => (lift1 ((res pb e3).bind fun y => (res pc e3).bind fun z => cm2 p y z) e3).bind fun k e4 => .ok (.val (.d (.bool k))) e4 else .ok (.val (.d (.bool false))) e2) := by
  obtain ⟨ta, pa, sa⟩ := ha
  obtain ⟨tb, pb, sb⟩ := hb
  obtain ⟨tc, pc, sc⟩ := hc
  obtain ⟨r, hr, cd⟩ := cm_rule hu o
  obtain ⟨r', hr', cd'⟩ := cm_rule hu p
  refine ⟨_, pe_chain hr hr' pa pb pc hm, fun σ H env re => ?_⟩
  show SndAt X.K TB W σ H env (fun Q => ta σ H fun x H1 => tb σ H1 fun y H2 => r x y H2 fun z H3 => ∃ k, z = V.bl k ∧ (if k = true then tc σ H3 fun w' H4 => r' y w' H4 Q else Q (V.bl false) H3)) _ _
  refine sa_bind (sa σ H env re) fun x pa H1 env1 e1 r1 => ?_
  refine sa_bind (sb.at e1) fun y pb H2 env2 e2 ⟨e12, r2⟩ => ?_
  cases q : (res pa env2).bind fun x => (res pb env2).bind fun y => cm2 o x y with
  | none => exact sa_bad
  | some k =>
    simp only [Option.bind_eq_some_iff] at q
    obtain ⟨dx, hx, dy, hy, hk⟩ := q
    have go : SndAt X.K TB W σ H env (fun Q => if k = true then tc σ H2 fun w' H4 => r' y w' H4 Q else Q (V.bl false) H2) (if k then (fc env2).bind fun pc e3 => (lift1 ((res pb e3).bind fun y => (res pc e3).bind fun z => cm2 p y z) e3).bind fun k e4 => .ok (.val (.d (.bool k))) e4 else .ok (.val (.d (.bool false))) env2) (fun H' env' v pv => PR X.K H H' σ env' v pv) := by
      cases k with
      | false => exact sa_val fun Q kk => by rw [if_neg Bool.false_ne_true]; exact kk _ H2 e2 (Fz.bl false)
      | true =>
        simp only [if_true]
        refine sa_bind (sc.at e2) fun z pc H3 env3 e3 ⟨e23, r3⟩ => ?_
        cases q : (res pb env3).bind fun y => (res pc env3).bind fun z => cm2 p y z with
        | none => exact sa_bad
        | some k2 =>
          simp only [Option.bind_eq_some_iff] at q
          obtain ⟨dy', hy', dz, hz, hk2⟩ := q
          exact sa_val fun Q kk => cd' H3 y z dy' dz k2 (res_rd e3 ((r2.whole e1).later e2 e23) hy') (res_rd e3 (r3.whole e2) hz) hk2 Q (kk _ H3 e3 (Fz.bl k2))
    refine ⟨fun a' env' hq Q kk => cd H2 x y dx dy k (res_rd e2 (r1.later e1 e12) hx) (res_rd e2 (r2.whole e1) hy) hk _ ⟨k, rfl, go.1 a' env' hq Q kk⟩, fun k' hq hw Q => cd H2 x y dx dy k (res_rd e2 (r1.later e1 e12) hx) (res_rd e2 (r2.whole e1) hy) hk _ ⟨k, rfl, go.2 k' hq hw Q⟩⟩
theorem so_chainT (hu : X.A.units + 65 < cLine) (hm : lastMarks [cmOp o, cmOp p] [b, c] = false) (ha : SoE X TB W a fa) (hb : SoE X TB W b fb) (hc : SoE X TB W c fc) :
    SoT X TB W (.Compare a [cmOp o, cmOp p] [b, c] pos) (fun e => (fa e).bind fun pa e1 => (fb e1).bind fun pb e2 => (lift1 ((res pa e2).bind fun x => (res pb e2).bind fun y => cm2 o x y) e2).bind fun k e2 => if k then (fc e2).bind fun pc e3 => lift1 ((res pb e3).bind fun y => (res pc e3).bind fun z => cm2 p y z) e3 else .ok false e2) := by
  obtain ⟨ta, pa, sa⟩ := ha
  obtain ⟨tb, pb, sb⟩ := hb
  obtain ⟨tc, pc, sc⟩ := hc
  obtain ⟨r, hr, cd⟩ := cm_rule hu o
  obtain ⟨r', hr', cd'⟩ := cm_rule hu p
  refine ⟨_, pt_chain hr hr' pa pb pc hm, fun σ H env re => ?_⟩
  show SndAt X.K TB W σ H env (fun Q => ta σ H fun x H1 => tb σ H1 fun y H2 => r x y H2 fun z H3 => ∃ k, z = V.bl k ∧ (if k = true then tc σ H3 fun w' H4 => r' y w' H4 fun z' H5 => ∃ k', z' = V.bl k' ∧ Q k' H5 else ∃ k', V.bl false = V.bl k' ∧ Q k' H3)) _ _
  refine sa_bind (sa σ H env re) fun x pa H1 env1 e1 r1 => ?_
  refine sa_bind (sb.at e1) fun y pb H2 env2 e2 ⟨e12, r2⟩ => ?_
  cases q : (res pa env2).bind fun x => (res pb env2).bind fun y => cm2 o x y with
  | none => exact sa_bad
  | some k =>
    simp only [Option.bind_eq_some_iff] at q
    obtain ⟨dx, hx, dy, hy, hk⟩ := q
    have go : SndAt X.K TB W σ H env (fun Q : Bool → Hp → Prop => if k = true then tc σ H2 fun w' H4 => r' y w' H4 fun z' H5 => ∃ k', z' = V.bl k' ∧ Q k' H5 else ∃ k', V.bl false = V.bl k' ∧ Q k' H2) (if k then (fc env2).bind fun pc e3 => lift1 ((res pb e3).bind fun y => (res pc e3).bind fun z => cm2 p y z) e3 else .ok false env2) (fun H' env' b a => b = a) := by
      cases k with
      | false => exact sa_val fun Q kk => by rw [if_neg Bool.false_ne_true]; exact ⟨false, rfl, kk _ H2 e2 rfl⟩
      | true =>
        simp only [if_true]
        refine sa_bind (sc.at e2) fun z pc H3 env3 e3 ⟨e23, r3⟩ => ?_
        refine lift1_sa fun k2 hk2 => ?_
        simp only [Option.bind_eq_some_iff] at hk2
        obtain ⟨dy', hy', dz, hz, hk2⟩ := hk2
        exact sa_val fun Q kk => cd' H3 y z dy' dz k2 (res_rd e3 ((r2.whole e1).later e2 e23) hy') (res_rd e3 (r3.whole e2) hz) hk2 _ ⟨k2, rfl, kk _ H3 e3 rfl⟩
    refine ⟨fun a' env' hq Q kk => cd H2 x y dx dy k (res_rd e2 (r1.later e1 e12) hx) (res_rd e2 (r2.whole e1) hy) hk _ ⟨k, rfl, go.1 a' env' hq Q kk⟩, fun k' hq hw Q => cd H2 x y dx dy k (res_rd e2 (r1.later e1 e12) hx) (res_rd e2 (r2.whole e1) hy) hk _ ⟨k, rfl, go.2 k' hq hw Q⟩⟩
theorem tru_of {H : Hp} {x : V} {d : PyData} {k : Bool} (h : RD X.K H x d) (e : truth d = some k) : TruV X.K x H k := by
  cases d <;> simp only [truth, reduceCtorEq] at e
  · cases h.none
    cases e
    rfl
  · cases h.bool
    cases e
    rfl
  · cases h.int
    cases e
    rfl
  · cases h.str
    split at e
    · cases e
      exact ⟨by assumption, rfl⟩
    · cases e
  · obtain ⟨p, vs, rfl, h1, al⟩ := h.list
    cases e
    refine .inl ⟨vs, h1, ?_⟩
    cases al <;> rfl
  · obtain ⟨p, vs, rfl, h1, al⟩ := h.tuple
    cases e
    refine .inr (.inl ⟨vs, h1, ?_⟩)
    cases al <;> rfl
theorem so_tru (hi : ∀ whole, isTrue a X.env whole = (do let v ← whole; standAt a.pos; holding [v] (truthy v))) (ha : SoE X TB W a fa) : SoT X TB W a (fun e => (fa e).bind fun p e1 => lift1 ((res p e1).bind truth) e1) := by
  obtain ⟨ta, pa, sa⟩ := ha
  refine ⟨_, pt_truth pa hi, fun σ H env re => ?_⟩
  refine sa_bind (sa σ H env re) fun x p H1 env1 e1 r1 => ?_
  refine lift1_sa fun k hk => ?_
  simp only [Option.bind_eq_some_iff] at hk
  obtain ⟨d, hd, hk⟩ := hk
  exact sa_val fun Q kk => ⟨k, tru_of (res_rd e1 r1 hd) hk, kk k H1 e1 rfl⟩
theorem so_nottV (ha : SoE X TB W a fa) : SoE X TB W (.UnaryOp .Not a pos) (fun e => (fa e).bind fun pa e1 => match res pa e1 with
    | some (.bool c) => .ok (.val (.d (.bool (!c)))) e1
    | _ => .bad) := by
  obtain ⟨ta, pa, sa⟩ := ha
  refine ⟨_, pe_not pa, fun σ H env re => ?_⟩
  show SndAt X.K TB W σ H env (fun Q => ta σ H fun x H1 => ∃ c, x = V.bl c ∧ Q (V.bl (!c)) H1) _ _
  refine sa_bind (sa σ H env re) fun x p H1 env1 e1 r1 => ?_
  split
  · rename_i c hc
    cases (res_rd e1 r1 hc).bool
    exact sa_val fun Q k => ⟨c, rfl, k _ H1 e1 (Fz.bl _)⟩
  · exact sa_bad
end
/-! tests in a row -/
def SoW (X : Cx) (TB : TL) (W : WEx) (e : Expr) (f : DEnv → R Bool) : Prop := ∃ t, PW X e t ∧ Snd X.K TB W t f (fun _ _ _ _ b a => b = a)
section
variable {a b : Expr} {es : List Expr} {fa fb : DEnv → R Bool} {ga gb : DEnv → R PV} {pos : Pos}
theorem SoW.pt {e : Expr} (h : SoW X TB W e fa) : SoT X TB W e fa := let ⟨t, p, s⟩ := h; ⟨t, p.pt, s⟩
theorem so_and1 (ha : SoT X TB W a fa) : SoW X TB W (.BoolOp .And [a] pos) (fun e => (fa e).bind fun b e1 => if b then .ok true e1 else .ok false e1) := by
  obtain ⟨ta, pa, sa⟩ := ha
  refine ⟨_, pw_and1 pa, fun σ H env re => ?_⟩
  refine sa_bind (pu := fun x H1 Q => Q x H1) (sa σ H env re) fun x t H1 env1 e1 r1 => ?_
  cases r1
  cases x <;> exact sa_ok e1 rfl
theorem so_or1 (ha : SoT X TB W a fa) : SoW X TB W (.BoolOp .Or [a] pos) (fun e => (fa e).bind fun b e1 => if b then .ok true e1 else .ok false e1) := by
  obtain ⟨ta, pa, sa⟩ := ha
  refine ⟨_, pw_or1 pa, fun σ H env re => ?_⟩
  refine sa_bind (pu := fun x H1 Q => Q x H1) (sa σ H env re) fun x t H1 env1 e1 r1 => ?_
  cases r1
  cases x <;> exact sa_ok e1 rfl
theorem so_and (ha : SoT X TB W a fa) (hb : SoW X TB W (.BoolOp .And (b :: es) pos) fb) : SoW X TB W (.BoolOp .And (a :: b :: es) pos) (fun e => (fa e).bind fun b e1 => if b then fb e1 else .ok false e1) := by
  obtain ⟨ta, pa, sa⟩ := ha
  obtain ⟨tb, pb, sb⟩ := hb
  refine ⟨_, pw_and pa pb, fun σ H env re => ?_⟩
  show SndAt X.K TB W σ H env (fun Q => ta σ H fun c H1 => if c = true then tb σ H1 Q else Q false H1) _ _
  refine sa_bind (sa σ H env re) fun x t H1 env1 e1 r1 => ?_
  cases r1
  cases x with
  | true => exact sa_mono (sb.at e1) fun H' env' y pv e2 ⟨e12, r2⟩ => r2
  | false => exact sa_ok e1 rfl
theorem so_or (ha : SoT X TB W a fa) (hb : SoW X TB W (.BoolOp .Or (b :: es) pos) fb) : SoW X TB W (.BoolOp .Or (a :: b :: es) pos) (fun e => (fa e).bind fun b e1 => if b then .ok true e1 else fb e1) := by
  obtain ⟨ta, pa, sa⟩ := ha
  obtain ⟨tb, pb, sb⟩ := hb
  refine ⟨_, pw_or pa pb, fun σ H env re => ?_⟩
  show SndAt X.K TB W σ H env (fun Q => ta σ H fun c H1 => if c = true then Q true H1 else tb σ H1 Q) _ _
  refine sa_bind (sa σ H env re) fun x t H1 env1 e1 r1 => ?_
  cases r1
  cases x with
  | false => exact sa_mono (sb.at e1) fun H' env' y pv e2 ⟨e12, r2⟩ => r2
  | true => exact sa_ok e1 rfl
theorem so_not (ha : SoT X TB W a fa) : SoT X TB W (.UnaryOp .Not a pos) (fun e => (fa e).bind fun b e1 => .ok (!b) e1) := by
  obtain ⟨ta, pa, sa⟩ := ha
  refine ⟨_, pt_not pa, fun σ H env re => ?_⟩
  show SndAt X.K TB W σ H env (fun Q => ta σ H fun c H1 => Q (!c) H1) _ _
  refine sa_bind (sa σ H env re) fun x t H1 env1 e1 r1 => ?_
  cases r1
  exact sa_ok e1 rfl
/-! as values -/
theorem so_one {op} (ha : SoE X TB W a ga) : SoE X TB W (.BoolOp op [a] pos) ga := let ⟨t, p, s⟩ := ha; ⟨t, pe_one p, s⟩
theorem so_andV (ha : SoE X TB W a ga) (hb : SoE X TB W (.BoolOp .And (b :: es) pos) gb) : SoE X TB W (.BoolOp .And (a :: b :: es) pos) (fun e => (ga e).bind fun p e1 => match res p e1 with
      | some (.bool c) => if c then gb e1 else .ok (.val (.d (.bool false))) e1
      | _ => .bad) := by
  obtain ⟨ta, pa, sa⟩ := ha
  obtain ⟨tb, pb, sb⟩ := hb
  refine ⟨_, pe_and pa pb, fun σ H env re => ?_⟩
  show SndAt X.K TB W σ H env (fun Q => ta σ H fun x H1 => ∃ c, x = V.bl c ∧ if c = true then tb σ H1 Q else Q (V.bl false) H1) _ _
  refine sa_bind (sa σ H env re) fun x p H1 env1 e1 r1 => ?_
  split
  · rename_i c hc
    cases (res_rd e1 r1 hc).bool
    cases c with
    | true =>
      have z := sa_mono (sb.at e1) (Rl' := fun H' env' v pv => PR X.K H H' σ env' v pv) fun H' env' y pv e2 ⟨e12, r2⟩ => r2.whole e1
      exact ⟨fun a' env' hq Q k => ⟨true, rfl, by rw [if_pos rfl]; exact z.1 a' env' hq Q k⟩, fun k hq hw Q => ⟨true, rfl, by rw [if_pos rfl]; exact z.2 k hq hw Q⟩⟩
    | false => exact sa_val fun Q k => ⟨false, rfl, by rw [if_neg Bool.false_ne_true]; exact k _ H1 e1 (Fz.bl false)⟩
  · exact sa_bad
theorem so_orV (ha : SoE X TB W a ga) (hb : SoE X TB W (.BoolOp .Or (b :: es) pos) gb) : SoE X TB W (.BoolOp .Or (a :: b :: es) pos) (fun e => (ga e).bind fun p e1 => match res p e1 with
      | some (.bool c) => if c then .ok (.val (.d (.bool true))) e1 else gb e1
      | _ => .bad) := by
  obtain ⟨ta, pa, sa⟩ := ha
  obtain ⟨tb, pb, sb⟩ := hb
  refine ⟨_, pe_or pa pb, fun σ H env re => ?_⟩
  show SndAt X.K TB W σ H env (fun Q => ta σ H fun x H1 => ∃ c, x = V.bl c ∧ if c = true then Q (V.bl true) H1 else tb σ H1 Q) _ _
  refine sa_bind (sa σ H env re) fun x p H1 env1 e1 r1 => ?_
  split
  · rename_i c hc
    cases (res_rd e1 r1 hc).bool
    cases c with
    | false =>
      have z := sa_mono (sb.at e1) (Rl' := fun H' env' v pv => PR X.K H H' σ env' v pv) fun H' env' y pv e2 ⟨e12, r2⟩ => r2.whole e1
      exact ⟨fun a' env' hq Q k => ⟨false, rfl, by rw [if_neg Bool.false_ne_true]; exact z.1 a' env' hq Q k⟩, fun k hq hw Q => ⟨false, rfl, by rw [if_neg Bool.false_ne_true]; exact z.2 k hq hw Q⟩⟩
    | true => exact sa_val fun Q k => ⟨true, rfl, by rw [if_pos rfl]; exact k _ H1 e1 (Fz.bl true)⟩
  · exact sa_bad
end
end
end Wd
/-! Wd 7: calls of defs and of built-ins. -/
namespace Wd
open PySem PySem.Spec PyProof.Rows L2
/-- a def's promise, told where no text of a list is under way -/
structure FnG (P : Program) (w : World) (K : PySem.W.Frag) (mg : Str → Option Value) (base : Heap) (k : Nat) (f : Addr) (fd : FuncData) (ps : List Str) (sp : Sp) : Prop where
  len : ∀ vs H Q E, sp vs H Q E → vs.length = ps.length
  run : ∀ (A : Around) (outer : List Env) (s : Shared) (H : Hp) (args : Args) (us : List Value) (vs : List V) (Q : VK) (E : XK), Room k A → A.guards = some [] → Env0 P w K mg base A outer s H → BindsTo s fd args (ps.zip us) → Vals vs us → sp vs H Q E →
    codeAny (model P w) A (.call (.ref f) args) (CR (L2.CX P w) outer P w H s Q E) s
theorem FnG.mono {P : Program} {w : World} {K : PySem.W.Frag} {mg : Str → Option Value} {base : Heap} {j k : Nat} {f : Addr} {fd : FuncData} {ps : List Str} {sp : Sp} (F : FnG P w K mg base j f fd ps sp) (h : j ≤ k) : FnG P w K mg base k f fd ps sp :=
  ⟨F.len, fun A outer s H args us vs Q E hr => F.run A outer s H args us vs Q E (hr.mono h)⟩
/-- a def of the text, its body walked -/
theorem fng_of {P : Program} {w : World} {K : PySem.W.Frag} {mg : Str → Option Value} {base : Heap} {x qual : Str} {st : Stmt} {f : Addr} {fd : FuncData} {N ps : List Str} {k : Nat} {sp : Sp} (F : Fun K x qual st f fd) (S : FnScope N ps (defScope st)) (len : ∀ vs H Q E, sp vs H Q E → vs.length = ps.length)
    (hbody : ∀ (cdv : Value) (A : Around) (outer : List Env) (s : Shared) (H : Hp) (vs : List V) (Q : VK) (E : XK), Room k (A.deeper (envOfC qual (defScope st) s.heap.objs.size f cdv)) → A.guards = some [] → sp vs H Q E →
      ∃ t, PSs (cxOf (L2.CX P w) P w K mg base N qual (defScope st) f cdv A outer s H E) (defBody st) t ∧ t { nx := fun _ H' => Q .non H', rt := Q } (start N vs) H) : FnG P w K mg base (k + 1) f fd ps sp := by
  obtain ⟨oc, od, kV, doc, pm, an, cdv, ct, osl, rfl, lk, hcd⟩ := F.ex
  exact ⟨len, fun A outer s H args us vs Q E hr hg e0 hb r hsp => LamX.run_ofS lk hcd S hr e0 hb r (len _ _ _ _ hsp) fun hr' => hbody cdv A outer s H vs Q E hr' hg hsp⟩
inductive RVs (K : PySem.W.Frag) (H : Hp) : List V → List DV → Prop
  | nil : RVs K H [] []
  | cons {v : V} {vs : List V} {d : DV} {ds : List DV} : RV K H v d → RVs K H vs ds → RVs K H (v :: vs) (d :: ds)
theorem RVs.length {K : PySem.W.Frag} {H : Hp} : ∀ {vs : List V} {ds : List DV}, RVs K H vs ds → vs.length = ds.length
  | _, _, .nil => rfl
  | _, _, .cons _ r => congrArg (· + 1) (RVs.length r)
theorem RVs.of {K : PySem.W.Frag} {H : Hp} : ∀ {vs : List V} {ds : List PyData}, FzAll K H vs ds → RVs K H vs (ds.map .d)
  | _, _, .nil => .nil
  | _, _, .cons h r => .cons h (RVs.of r)
/-- a fresh or never changing value -/
def RN (K : PySem.W.Frag) (H H' : Hp) (x : V) : DV → Prop
  | .d y => Fz K H' x y
  | .own ys => ∃ a ws, x = .ref a ∧ H' a = some (.lst ws) ∧ FzAll K H' ws ys ∧ H a = none
theorem RN.pr {K : PySem.W.Frag} {H H' : Hp} {σ : L2.St} {env : DEnv} {x : V} {v : DV} (h : RN K H H' x v) : PR K H H' σ env x (.val v) := by
  cases v with
  | d y => exact h
  | own ys => exact h
/-- what the interpreter promises of a def: r its answers -/
def spF (K : PySem.W.Frag) (TB : TL) (cr : Nat → Addr) (n : Nat) (r : List DV → CA) : Sp := fun vs H Q E => vs.length = n ∧ ∃ dvs, RVs K H vs dvs ∧ LamX.Tabs TB H ∧ match r dvs with
  | .ok v none => ∀ x H', Ext (fun _ => False) H H' → (∀ b, H' b = none → H b = none) → LamX.Tabs TB H' → RN K H H' x v → Q x H'
  | .ok v (some zs) => ∃ a ys, vs.head? = some (V.ref a) ∧ dvs.head? = some (DV.own ys) ∧ ∀ x H' ws, Ext (fun b => b = a) H H' → (∀ b, H' b = none → H b = none) → LamX.Tabs TB H' → H' a = some (.lst ws) → FzAll K H' ws zs → RN K H H' x v → Q x H'
  | .exc k => ∀ d H', Ext (fun _ => False) H H' → LamX.Tabs TB H' → E (.ref (cr k)) d H'
  | .bad => False
section
variable {X : Cx} {TB : TL} {W : WEx} {cr : Nat → Addr}
/-- what this body wants of exceptions -/
abbrev WW (cr : Nat → Addr) (W : WEx) : WX := fun cls d _ H => ∃ k, cls = .ref (cr k) ∧ W k d H
abbrev WK (cr : Nat → Addr) (W : WEx) : XK := fun cls d H => ∃ k, cls = .ref (cr k) ∧ W k d H
section
variable {k : Nat} {f : Addr} {fd : FuncData} {ps : List Str} {sp : Sp} {x : Str} {p pos : Pos} {e : Expr} {es : List Expr} {t : TA}
theorem run_fng {pins : List (Addr × Obj)} {σ : L2.St} {H : Hp} {s : Shared} {Q : VK} {us : List Value} {vs : List V} (F : FnG X.prog X.w X.K X.mg X.base k f fd ps sp) (hr : Room k X.A) (gd : X.A.guards = some []) (hb : Binds X.K fd ps []) (tk : Takes X (WW cr W))
    (I : L2.Inv X pins σ H s) (r : Vals vs us) (h : sp vs H Q (WK cr W)) : wpAny (model X.prog X.w) X.A (call (.ref f) us) (EP X pins σ Q) X.xe s := by
  have hl : us.length = ps.length := by rw [← r.length]; exact F.len _ _ _ _ h
  have b := hb s us I.kIn (by rw [List.append_nil]; exact hl)
  rw [List.append_nil] at b
  refine wpAny_call (codeAny_mono (F.run X.A X.stack s H ⟨us, []⟩ us vs Q _ hr gd I.env0 b r h) fun r' s' hq => ?_)
  match r', hq with
  | .error e, hq => exact passes_call tk (E := WK cr W) (fun cls d σ H h => h) pins σ H s e s' I hq
  | .ok (.ret u), hq => exact I.after hq
  | .ok .next, hq => exact hq.elim
  | .ok .brk, hq => exact hq.elim
  | .ok .cont, hq => exact hq.elim
theorem pe_callG (F : FnG X.prog X.w X.K X.mg X.base k f fd ps sp) (hr : Room k X.A) (gd : X.A.guards = some []) (hb : Binds X.K fd ps []) (tk : Takes X (WW cr W)) (hg : Gl X x) (hm : X.mg x = some (.ref f)) (hk : PySem.W.keepIn X.K (.ref f) = true)
    (ha : PA X (e :: es) t) (hdb : (x == ("__debug__" : Str)) = false) (he : starEach (e :: es) X.env = (false, eval e X.env) :: starEach es X.env) (hpl : (backTo pos (starEach es X.env)).any (·.1) = false) :
    PE X (.Call (.Name x p) (e :: es) [] pos) (fun σ H Q => t σ H fun vs H1 => sp vs H1 Q (WK cr W)) :=
  ⟨fun pins s σ H Q I h => wpAny_Call_Name_kw (ld_glob I hg hm (PySem.W.callWith_K (h₀ := X.base) I.ok.mod.kin hk (thn (ha.run pos pins s σ H _ I h) fun us s1 ⟨vs, H1, I1, r, q⟩ => ⟨I1.kIn, run_fng F hr gd hb tk I1 r q⟩) he hpl) hdb)⟩
theorem pe_callG0 (F : FnG X.prog X.w X.K X.mg X.base k f fd ps sp) (hr : Room k X.A) (gd : X.A.guards = some []) (hb : Binds X.K fd ps []) (tk : Takes X (WW cr W)) (hg : Gl X x) (hm : X.mg x = some (.ref f)) (hk : PySem.W.keepIn X.K (.ref f) = true)
    (hdb : (x == ("__debug__" : Str)) = false) : PE X (.Call (.Name x p) [] [] pos) (fun σ H Q => sp [] H Q (WK cr W)) :=
  ⟨fun pins s σ H Q I h => wpAny_Call_Name_kw (ld_glob I hg hm (PySem.W.callWith_K0 I.kIn hk (run_fng (us := []) F hr gd hb tk I .nil h)) hdb)⟩
end
/-- from before a call to behind it -/
theorem EP1.call {K : PySem.W.Frag} {σ : L2.St} {H0 H1 H2 : Hp} {env0 env1 : DEnv} (e : EP1 K TB σ H0 env0 H1 env1) (x : Ext (fun _ => False) H1 H2) (g : ∀ b, H2 b = none → H1 b = none) (t : LamX.Tabs TB H2) : EP1 K TB σ H0 env0 H2 env1 ∧ EP1 K TB σ H1 env1 H2 env1 := by
  have st : Stay H1 H2 := x.stay fun b z => z.elim
  have e2 : EP1 K TB σ H1 env1 H2 env1 := ⟨x.mono fun _ z => z.elim, ⟨e.rep.len, fun i v q => by
    obtain ⟨y, hy, rv⟩ := e.rep.at_ i v q
    refine ⟨y, hy, ?_⟩
    cases v with
    | d z => exact Fz.stay st rv
    | own zs =>
      obtain ⟨a, vs, rfl, h1, al⟩ := rv
      exact ⟨a, vs, rfl, x a _ h1 id fun _ z => (by cases z), FzAll.stay st al⟩, e.rep.inj, t⟩, fun _ z => z, fun i w h => ⟨w, h⟩, g, e.rep.own_lst⟩
  exact ⟨e.trans e2, e2⟩
/-- a name's own list gets another content -/
theorem EP1.putN {K : PySem.W.Frag} {σ : L2.St} {H0 H1 H2 : Hp} {env0 env1 : DEnv} {i : Nat} {a : Addr} {ys zs : List PyData} {ws : List V} (e : EP1 K TB σ H0 env0 H1 env1) (hi : env1[i]? = some (some (DV.own ys))) (hs : σ[i]? = some (some (V.ref a)))
    (x : Ext (fun b => b = a) H1 H2) (g : ∀ b, H2 b = none → H1 b = none) (t : LamX.Tabs TB H2) (ha : H2 a = some (.lst ws)) (al : FzAll K H2 ws zs) : EP1 K TB σ H0 env0 H2 (env1.set i (some (DV.own zs))) ∧ Stay H1 H2 := by
  have ow : OwnA env1 σ a := ⟨i, ys, hi, hs⟩
  have st : Stay H1 H2 := x.stay fun b z => by rw [z]; exact e.rep.own_lst a ow
  have own' : ∀ (j : Nat) (vs : List PyData), (env1.set i (some (DV.own zs)))[j]? = some (some (DV.own vs)) → ∃ vs', env1[j]? = some (some (DV.own vs')) := fun j vs q => by
    by_cases hj : j = i
    · exact ⟨ys, by rw [hj]; exact hi⟩
    · rw [get_set_ne hj] at q
      exact ⟨vs, q⟩
  have e2 : EP1 K TB σ H1 env1 H2 (env1.set i (some (DV.own zs))) := by
    refine ⟨x.mono fun b z => by rw [z]; exact ow, ⟨by rw [List.length_set]; exact e.rep.len, fun j v q => ?_, fun j k xs ys' b q1 q2 s1 s2 => ?_, t⟩, fun b ⟨j, vs, q1, q2⟩ => ?_, fun j w h => ?_, g, e.rep.own_lst⟩
    · by_cases hj : j = i
      · subst hj
        rw [get_set_self hi] at q
        cases q
        exact ⟨_, hs, a, ws, rfl, ha, al⟩
      · rw [get_set_ne hj] at q
        obtain ⟨y, hy, rv⟩ := e.rep.at_ j v q
        refine ⟨y, hy, ?_⟩
        cases v with
        | d z => exact Fz.stay st rv
        | own us =>
          obtain ⟨b, vs, rfl, h1, al'⟩ := rv
          exact ⟨b, vs, rfl, x b _ h1 (fun z => hj (e.rep.inj j i us ys a q hi (by rw [← z]; exact hy) hs)) fun _ z => (by cases z), FzAll.stay st al'⟩
    · obtain ⟨x1, h1⟩ := own' j _ q1
      obtain ⟨x2, h2⟩ := own' k _ q2
      exact e.rep.inj j k x1 x2 b h1 h2 s1 s2
    · obtain ⟨x1, h1⟩ := own' j _ q1
      exact ⟨j, x1, h1, q2⟩
    · by_cases hj : j = i
      · exact ⟨_, by rw [hj]; exact get_set_self hi⟩
      · exact ⟨w, by rw [get_set_ne hj]; exact h⟩
  exact ⟨e.trans e2, st⟩
/-- the answer of a call, of values that stand -/
theorem call_sa {K : PySem.W.Frag} {σ : L2.St} {H0 H1 : Hp} {env0 env1 : DEnv} {n : Nat} {r : List DV → CA} {vs : List V} {dvs : List DV} (e1 : EP1 K TB σ H0 env0 H1 env1) (hn : vs.length = n) (hv : RVs K H1 vs dvs) :
    SndAt K TB W σ H0 env0 (fun Q => spF K TB cr n r vs H1 Q (WK cr W)) (match r dvs with
      | .ok v none => R.ok (PV.val v) env1
      | .exc k => .exc k
      | _ => .bad) (fun H' env' v pv => PR K H0 H' σ env' v pv) := by
  cases hc : r dvs with
  | bad => exact sa_bad
  | exc k0 =>
    refine ⟨fun _ _ q => (nomatch q), fun k' q hw Q => ?_⟩
    cases q
    refine ⟨hn, dvs, hv, e1.rep.tabs, ?_⟩
    rw [hc]
    exact fun d H2 x2 t2 => ⟨k0, rfl, hw d H2 (e1.ext.trans x2 fun _ _ _ z => z.elim) t2⟩
  | ok v b =>
    cases b with
    | some zs => exact sa_bad
    | none =>
      refine sa_val fun Q kk => ⟨hn, dvs, hv, e1.rep.tabs, ?_⟩
      rw [hc]
      intro y H2 x2 g2 t2 rn
      obtain ⟨e2, _⟩ := e1.call x2 g2 t2
      exact kk y H2 e2 (PR.whole e1 rn.pr)
theorem so_call {O : Orc} {i k n : Nat} {f : Addr} {fd : FuncData} {ps : List Str} {x : Str} {p pos : Pos} {e : Expr} {es : List Expr} {fs : DEnv → R (List PyData)} (F : FnG X.prog X.w X.K X.mg X.base k f fd ps (spF X.K TB cr n (O.cf i))) (hr : Room k X.A) (gd : X.A.guards = some []) (hb : Binds X.K fd ps []) (tk : Takes X (WW cr W)) (hg : Gl X x) (hm : X.mg x = some (.ref f)) (hk : PySem.W.keepIn X.K (.ref f) = true)
    (hn : (e :: es).length = n) (hdb : (x == ("__debug__" : Str)) = false) (he : starEach (e :: es) X.env = (false, eval e X.env) :: starEach es X.env) (hpl : (backTo pos (starEach es X.env)).any (·.1) = false) (hl : ∀ env xs env', fs env = .ok xs env' → xs.length = n) (ha : SoA X TB W (e :: es) fs) :
    SoE X TB W (.Call (.Name x p) (e :: es) [] pos) (fun e => (fs e).bind fun xs e1 => match O.cf i (xs.map .d) with
    | .ok v none => .ok (.val v) e1
    | .exc k => .exc k
    | _ => .bad) := by
  obtain ⟨t, pt, st⟩ := ha
  refine ⟨_, pe_callG F hr gd hb tk hg hm hk pt hdb he hpl, fun σ H env re => ?_⟩
  refine sa_bindE (st σ H env re) fun vs xs H1 env1 hfs e1 r1 => ?_
  have hln : vs.length = n := by rw [r1.length]; exact hl _ _ _ hfs
  exact call_sa e1 hln (.of r1)
theorem so_call0 {O : Orc} {i k : Nat} {f : Addr} {fd : FuncData} {ps : List Str} {x : Str} {p pos : Pos} (F : FnG X.prog X.w X.K X.mg X.base k f fd ps (spF X.K TB cr 0 (O.cf i))) (hr : Room k X.A) (gd : X.A.guards = some []) (hb : Binds X.K fd ps []) (tk : Takes X (WW cr W)) (hg : Gl X x) (hm : X.mg x = some (.ref f)) (hk : PySem.W.keepIn X.K (.ref f) = true)
    (hdb : (x == ("__debug__" : Str)) = false) :
    SoE X TB W (.Call (.Name x p) [] [] pos) (fun e => (R.ok ([] : List PyData) e).bind fun xs e1 => match O.cf i (xs.map .d) with
    | .ok v none => .ok (.val v) e1
    | .exc k => .exc k
    | _ => .bad) := by
  exact ⟨_, pe_callG0 F hr gd hb tk hg hm hk hdb, fun σ H env re => call_sa (EP1.refl re) rfl .nil⟩
/-- f(y, ..) that changes y's own list -/
theorem so_callm {O : Orc} {i j k n : Nat} {f : Addr} {fd : FuncData} {ps : List Str} {x y : Str} {p p2 pos : Pos} {es : List Expr} {fs : DEnv → R (List PyData)} (F : FnG X.prog X.w X.K X.mg X.base k f fd ps (spF X.K TB cr n (O.cf i))) (hr : Room k X.A) (gd : X.A.guards = some []) (hb : Binds X.K fd ps []) (tk : Takes X (WW cr W)) (hg : Gl X x) (hm : X.mg x = some (.ref f)) (hk : PySem.W.keepIn X.K (.ref f) = true)
    (hN : X.N[j]? = some y) (hv : Vis X.env.scope y) (hd : (y == ("__debug__" : Str)) = false) (hcd : (y == ("__classdict__" : Str)) = false)
    (hdb : (x == ("__debug__" : Str)) = false) (hpl : (backTo pos (starEach es X.env)).any (·.1) = false) (hl : ∀ env xs env', fs env = .ok xs env' → xs.length + 1 = n) (ha : SoA X TB W es fs) :
    SoE X TB W (.Call (.Name x p) (.Name y p2 :: es) [] pos) (fun e => match e[j]? with
    | some (some (.own _)) => (fs e).bind fun xs e1 => (match e1[j]? with
      | some (some (.own ys)) => (match O.cf i (.own ys :: xs.map .d) with
        | .ok v (some zs) => .ok (.val v) (e1.set j (some (.own zs)))
        | _ => .bad)
      | _ => .bad)
    | _ => .bad) := by
  obtain ⟨t, pt, st⟩ := ha
  have py : PE X (.Name y p2) (tVar j) := pe_var hN hv hd hcd
  refine ⟨_, pe_callG F hr gd hb tk hg hm hk (pa_cons py pt) hdb rfl hpl, fun σ H env re => ?_⟩
  dsimp only
  split
  · rename_i ys0 h0
    obtain ⟨y0, hs, a, vs0, rfl, _, _⟩ := re.at_ j _ h0
    have st1 : SndAt X.K TB W σ H env (fun Q => t σ H fun xs H2 => spF X.K TB cr n (O.cf i) (V.ref a :: xs) H2 Q (WK cr W)) ((fs env).bind fun xs e1 => (match e1[j]? with
      | some (some (.own ys)) => (match O.cf i (.own ys :: xs.map .d) with
        | .ok v (some zs) => R.ok (PV.val v) (e1.set j (some (.own zs)))
        | _ => .bad)
      | _ => .bad)) (fun H' env' v pv => PR X.K H H' σ env' v pv) := by
      refine sa_bindE (st σ H env re) fun vs xs H1 env1 hfs e1 r1 => ?_
      split
      · rename_i ys h1
        obtain ⟨y1, hs1, a1, vs1, rfl, h2, al⟩ := e1.rep.at_ j _ h1
        rw [hs] at hs1
        cases hs1
        have rv : RVs X.K H1 (V.ref a :: vs) (.own ys :: xs.map .d) := .cons ⟨a, vs1, rfl, h2, al⟩ (.of r1)
        have hln : (V.ref a :: vs).length = n := by
          rw [List.length_cons, r1.length]
          exact hl _ _ _ hfs
        cases hc : O.cf i (.own ys :: xs.map .d) with
        | bad => exact sa_bad
        | exc k0 => exact sa_bad
        | ok v b =>
          cases b with
          | none => exact sa_bad
          | some zs =>
            refine sa_val fun Q kk => ⟨hln, _, rv, e1.rep.tabs, ?_⟩
            rw [hc]
            refine ⟨a, ys, rfl, rfl, fun y H2 ws x2 g2 t2 ha fa rn => ?_⟩
            obtain ⟨e2, _⟩ := e1.putN h1 hs x2 g2 t2 ha fa
            exact kk y H2 e2 (PR.whole e1 rn.pr)
      · exact sa_bad
    refine ⟨fun pv env' q Q kk => ⟨_, hs, st1.1 pv env' q Q kk⟩, fun k' q hw Q => ⟨_, hs, st1.2 k' q hw Q⟩⟩
  · exact sa_bad
end
end Wd
/-! Wd 8: built-in functions and types, called. -/
namespace Wd
open PySem PySem.Spec PyProof.Rows L2
section
variable {X : Cx} {TB : TL} {W : WEx}
def BlD (K : PySem.W.Frag) (r : List V → Hp → VK → Prop) (f : List PyData → Option DV) : Prop :=
  ∀ (H : Hp) (vs : List V) (ds : List PyData) (dv : DV), RDAll K H vs ds → f ds = some dv → ∀ Q : VK, (∀ v H', Grow K H H' v dv → Q v H') → r vs H Q
theorem rd1 {K : PySem.W.Frag} {H : Hp} {vs : List V} {d : PyData} (h : RDAll K H vs [d]) : ∃ v, vs = [v] ∧ RD K H v d := by
  cases h with
  | cons h r =>
    cases r
    exact ⟨_, rfl, h⟩
theorem rd2 {K : PySem.W.Frag} {H : Hp} {vs : List V} {d e : PyData} (h : RDAll K H vs [d, e]) : ∃ v u, vs = [v, u] ∧ RD K H v d ∧ RD K H u e := by
  cases h with
  | cons h r =>
    cases r with
    | cons h2 r =>
      cases r
      exact ⟨_, _, rfl, h, h2⟩
theorem intsD_fz {K : PySem.W.Frag} {H : Hp} : ∀ {xs : List PyData} {ns : List Int} {vs : List V}, intsD xs = some ns → FzAll K H vs xs → vs = ns.map V.int
  | [], ns, vs, e, al => by
    cases e
    cases al
    rfl
  | x :: xs, ns, vs, e, al => by
    cases x <;> simp only [intsD, reduceCtorEq] at e
    rw [Option.map_eq_some_iff] at e
    obtain ⟨ms, h, rfl⟩ := e
    cases al with
    | cons a r =>
      cases a
      rw [intsD_fz h r, List.map_cons]
theorem boolsD_fz {K : PySem.W.Frag} {H : Hp} : ∀ {xs : List PyData} {ns : List Bool} {vs : List V}, boolsD xs = some ns → FzAll K H vs xs → vs = ns.map V.bl
  | [], ns, vs, e, al => by
    cases e
    cases al
    rfl
  | x :: xs, ns, vs, e, al => by
    cases x <;> simp only [boolsD, reduceCtorEq] at e
    rw [Option.map_eq_some_iff] at e
    obtain ⟨ms, h, rfl⟩ := e
    cases al with
    | cons a r =>
      cases a
      rw [boolsD_fz h r, List.map_cons]
/-- repr of a list -/
def rRepr (K : PySem.W.Frag) : List V → Hp → VK → Prop := fun vs H Q => ∃ a ds, vs = [V.ref a] ∧ Dp K H (.ref a) (.list ds) ∧ showOk (.list ds) = true ∧ Q (.str (PyData.shown (.list ds))) H
theorem cr_repr (gd : X.A.guards = some []) (hu : X.A.units + 64 < cLine) : CallR X (.builtin "repr") (rRepr X.K) := by
  intro pins s σ H xs us Q I r h
  obtain ⟨a, ds, rfl, hd, ok, q⟩ := h
  obtain ⟨u, rfl, rx⟩ := vals1 r
  obtain ⟨as, hr⟩ := Dp.reads I _ _ _ hd rx
  cases rx
  simp only [showOk, Bool.and_eq_true, decide_eq_true_eq, Bool.not_eq_true'] at ok
  obtain ⟨⟨⟨o1, o2⟩, o3⟩, o4⟩ := ok
  exact repr_of_reads' hr o1 (PyData.noDict_hsm o2) gd (by omega) (fun _ _ e => e) (fun h' u' tk k => ⟨.str _, H, I.kept k, ⟨u', rfl⟩, q⟩) o4
def Blt.id : Blt → String
  | .abs => "abs"
  | .int => "int"
  | .len => "len"
  | .max => "max"
  | .min => "min"
  | .sum => "sum"
  | .all => "all"
  | .any => "any"
  | .repr => "repr"
  | .str => "str"
  | .tuple => "tuple"
  | .list => "list"
  | .sorted => "sorted"
def Blt.ty : Blt → Bool
  | .int => true
  | .str => true
  | .tuple => true
  | .list => true
  | _ => false
theorem boot_blt : ∀ b : Blt, b.ty = false → bootBuiltins (Str.ofString b.id) = some (.builtin b.id) := by
  intro b h
  cases b <;> first | exact absurd h (by decide) | decide +kernel
theorem boot_ty : ∀ b : Blt, b.ty = true → bootBuiltins (Str.ofString b.id) = some (.type b.id) := by
  intro b h
  cases b <;> first | exact absurd h (by decide) | decide +kernel
theorem blt_nm : ∀ b : Blt, Str.ofString b.id ≠ "__name__" ∧ ((Str.ofString b.id == ("__debug__" : Str)) = false) := by
  intro b
  cases b <;> decide +kernel
theorem bl_fun (hc : X.calm = true) (gd : X.A.guards = some []) (hu : X.A.units + 65 < cLine) : ∀ b : Blt, b.ty = false → ∃ r, CallR X (.builtin b.id) r ∧ BlD X.K r (bltR b) := by
  intro b h
  cases b with
  | int => cases h
  | str => cases h
  | tuple => cases h
  | list => cases h
  | abs =>
    refine ⟨_, call_abs, fun H vs ds dv hv e Q q => ?_⟩
    simp only [bltR, bAbs] at e
    split at e <;> try (cases e; done)
    cases e
    obtain ⟨v, rfl, h1⟩ := rd1 hv
    cases h1.int
    exact ⟨_, rfl, q _ _ (grow_d (.int _))⟩
  | len =>
    refine ⟨_, call_len, fun H vs ds dv hv e Q q => ?_⟩
    simp only [bltR, bLen] at e
    split at e <;> try (cases e; done)
    · cases e
      obtain ⟨v, rfl, h1⟩ := rd1 hv
      obtain ⟨a, ws, rfl, hs, al⟩ := h1.list
      exact ⟨_, _, rfl, .inl ⟨ws, hs, rfl⟩, q _ _ (by rw [al.length]; exact grow_d (.int _))⟩
    · cases e
      obtain ⟨v, rfl, h1⟩ := rd1 hv
      obtain ⟨a, ws, rfl, hs, al⟩ := h1.tuple
      exact ⟨_, _, rfl, .inr ⟨ws, hs, rfl⟩, q _ _ (by rw [al.length]; exact grow_d (.int _))⟩
    · split at e
      · cases e
        obtain ⟨v, rfl, h1⟩ := rd1 hv
        cases h1.str
        exact ⟨_, _, rfl, ⟨by assumption, rfl⟩, q _ _ (grow_d (.int _))⟩
      · cases e
  | max =>
    refine ⟨_, call_max2 hc, fun H vs ds dv hv e Q q => ?_⟩
    simp only [bltR, bMax] at e
    split at e <;> try (cases e; done)
    cases e
    obtain ⟨v, u, rfl, h1, h2⟩ := rd2 hv
    cases h1.int
    cases h2.int
    exact ⟨_, _, rfl, q _ _ (grow_d (.int _))⟩
  | min =>
    refine ⟨_, call_min2 hc, fun H vs ds dv hv e Q q => ?_⟩
    simp only [bltR, bMin] at e
    split at e <;> try (cases e; done)
    cases e
    obtain ⟨v, u, rfl, h1, h2⟩ := rd2 hv
    cases h1.int
    cases h2.int
    exact ⟨_, _, rfl, q _ _ (grow_d (.int _))⟩
  | sum =>
    refine ⟨_, cr_sum hc, fun H vs ds dv hv e Q q => ?_⟩
    simp only [bltR, bSum] at e
    split at e <;> try (cases e; done)
    rw [Option.map_eq_some_iff] at e
    obtain ⟨ns, hn, rfl⟩ := e
    obtain ⟨v, rfl, h1⟩ := rd1 hv
    obtain ⟨a, ws, rfl, hs, al⟩ := h1.list
    rw [intsD_fz hn al] at hs
    exact ⟨a, ns, rfl, hs, q _ _ (grow_d (.int _))⟩
  | all =>
    refine ⟨_, cr_all hc, fun H vs ds dv hv e Q q => ?_⟩
    simp only [bltR, bAll] at e
    split at e <;> try (cases e; done)
    rw [Option.map_eq_some_iff] at e
    obtain ⟨ns, hn, rfl⟩ := e
    obtain ⟨v, rfl, h1⟩ := rd1 hv
    obtain ⟨a, ws, rfl, hs, al⟩ := h1.list
    rw [boolsD_fz hn al] at hs
    exact ⟨a, ns, rfl, hs, q _ _ (grow_d (.bl _))⟩
  | any =>
    refine ⟨_, cr_any hc, fun H vs ds dv hv e Q q => ?_⟩
    simp only [bltR, bAny] at e
    split at e <;> try (cases e; done)
    rw [Option.map_eq_some_iff] at e
    obtain ⟨ns, hn, rfl⟩ := e
    obtain ⟨v, rfl, h1⟩ := rd1 hv
    obtain ⟨a, ws, rfl, hs, al⟩ := h1.list
    rw [boolsD_fz hn al] at hs
    exact ⟨a, ns, rfl, hs, q _ _ (grow_d (.bl _))⟩
  | repr =>
    refine ⟨_, cr_repr gd (by omega), fun H vs ds dv hv e Q q => ?_⟩
    simp only [bltR, bRepr] at e
    split at e <;> try (cases e; done)
    split at e
    · cases e
      obtain ⟨v, rfl, h1⟩ := rd1 hv
      obtain ⟨a, ws, rfl, hs, al⟩ := h1.list
      exact ⟨a, _, rfl, .lst hs al.dp, by assumption, q _ _ (grow_d (.str _))⟩
    · cases e
  | sorted =>
    exact ⟨fun _ _ _ => False, fun _ _ _ _ _ _ _ _ _ z => z.elim, fun H vs ds dv hv e Q q => by cases e⟩
theorem bl_ty (hc : X.calm = true) : ∀ b : Blt, b.ty = true → ∃ r, CallR X (.type b.id) r ∧ BlD X.K r (bltR b) := by
  intro b h
  cases b with
  | abs => cases h
  | len => cases h
  | max => cases h
  | min => cases h
  | sum => cases h
  | all => cases h
  | any => cases h
  | repr => cases h
  | sorted => cases h
  | int =>
    refine ⟨_, call_int1, fun H vs ds dv hv e Q q => ?_⟩
    simp only [bltR, bInt] at e
    split at e <;> try (cases e; done)
    · cases e
      obtain ⟨v, rfl, h1⟩ := rd1 hv
      cases h1.int
      exact .inl ⟨_, rfl, q _ _ (grow_d (.int _))⟩
    · cases e
      obtain ⟨v, rfl, h1⟩ := rd1 hv
      cases h1.bool
      exact .inr ⟨_, rfl, q _ _ (grow_d (.int _))⟩
  | str =>
    refine ⟨_, call_str_int, fun H vs ds dv hv e Q q => ?_⟩
    simp only [bltR, bStr] at e
    split at e <;> try (cases e; done)
    split at e
    · cases e
      obtain ⟨v, rfl, h1⟩ := rd1 hv
      cases h1.int
      exact ⟨_, rfl, by assumption, q _ _ (grow_d (.str _))⟩
    · cases e
  | tuple =>
    refine ⟨_, call_tuple_of, fun H vs ds dv hv e Q q => ?_⟩
    simp only [bltR, bTuple] at e
    split at e <;> try (cases e; done)
    · cases e
      obtain ⟨v, rfl, h1⟩ := rd1 hv
      obtain ⟨a, ws, rfl, hs, al⟩ := h1.list
      exact ⟨a, ws, rfl, .inl ⟨hs, fun l n => q _ _ (grow_tup n al)⟩⟩
    · cases e
      obtain ⟨v, rfl, h1⟩ := rd1 hv
      obtain ⟨a, ws, rfl, hs, al⟩ := h1.tuple
      exact ⟨a, ws, rfl, .inr ⟨hs, q _ _ (grow_d (.tup hs al))⟩⟩
  | list =>
    refine ⟨_, call_list_of, fun H vs ds dv hv e Q q => ?_⟩
    simp only [bltR, bList] at e
    split at e <;> try (cases e; done)
    · cases e
      obtain ⟨v, rfl, h1⟩ := rd1 hv
      obtain ⟨a, ws, rfl, hs, al⟩ := h1.list
      exact ⟨a, ws, rfl, .inl hs, fun l n => q _ _ (grow_lst n al)⟩
    · cases e
      obtain ⟨v, rfl, h1⟩ := rd1 hv
      obtain ⟨a, ws, rfl, hs, al⟩ := h1.tuple
      exact ⟨a, ws, rfl, .inr hs, fun l n => q _ _ (grow_lst n al)⟩
theorem so_blt {b : Blt} {x : Str} {p pos : Pos} {e : Expr} {es : List Expr} {fs : DEnv → R (List PyData)} (hc : X.calm = true) (gd : X.A.guards = some []) (hu : X.A.units + 65 < cLine) (hx : x = Str.ofString b.id) (hg : Gl X x) (hm : X.mg x = none)
    (he : starEach (e :: es) X.env = (false, eval e X.env) :: starEach es X.env) (hpl : (backTo pos (starEach es X.env)).any (·.1) = false) (ha : SoP X TB W (e :: es) fs) :
    SoE X TB W (.Call (.Name x p) (e :: es) [] pos) (fun e => (fs e).bind fun xs e1 => lift1 ((bltR b xs).map .val) e1) := by
  obtain ⟨t, pt, st⟩ := ha
  have go : ∀ r : List V → Hp → VK → Prop, BlD X.K r (bltR b) → Snd X.K TB W (fun σ H Q => t σ H fun vs H1 => r vs H1 Q) (fun e => (fs e).bind fun xs e1 => lift1 ((bltR b xs).map .val) e1) (fun H H' σ env' v pv => PR X.K H H' σ env' v pv) := fun r hr σ H env re => by
    refine sa_bind (st σ H env re) fun vs xs H1 env1 e1 r1 => ?_
    refine lift1_sa fun pv hp => ?_
    rw [Option.map_eq_some_iff] at hp
    obtain ⟨dv, hd, rfl⟩ := hp
    refine sa_val fun Q k => hr H1 vs xs dv r1 hd Q fun v H' g => ?_
    obtain ⟨e2, r2⟩ := e1.grow g
    exact k v H' e2 r2
  subst hx
  cases ht : b.ty with
  | false =>
    obtain ⟨r, hr, bd⟩ := bl_fun hc gd hu b ht
    exact ⟨_, pe_callB hr hg hm (boot_blt b ht) pt (blt_nm b).1 (blt_nm b).2 he hpl, go r bd⟩
  | true =>
    obtain ⟨r, hr, bd⟩ := bl_ty hc b ht
    exact ⟨_, pe_callTy hr hg hm (boot_ty b ht) pt (blt_nm b).1 (blt_nm b).2 he hpl, go r bd⟩
end
end Wd
/-! Wd 9: targets; what is walked; comprehensions. -/
namespace Wd
open PySem PySem.Spec PyProof.Rows L2
section
variable {K : PySem.W.Frag} {TB : TL} {H : Hp} {σ : L2.St} {env : DEnv}
theorem set_some_get {α : Type} {l : List (Option α)} {i j : Nat} {v : Option α} {w : α} (h : (l.set i v)[j]? = some (some w)) : (j = i ∧ v = some w) ∨ (j ≠ i ∧ l[j]? = some (some w)) := by
  by_cases hj : j = i
  · subst hj
    rw [List.getElem?_set] at h
    split at h
    · split at h
      · exact .inl ⟨rfl, Option.some.inj h⟩
      · cases h
    · rename_i hn
      exact absurd rfl hn
  · rw [List.getElem?_set_ne (Ne.symm hj)] at h
    exact .inr ⟨hj, h⟩
/-- a name is bound to a datum -/
theorem RepE.setd (r : RepE K TB H σ env) {i : Nat} {v : V} {x : PyData} (hi : i < σ.length) (h : Fz K H v x) : RepE K TB H (σ.set i (some v)) (env.set i (some (DV.d x))) := by
  refine ⟨by rw [List.length_set, List.length_set]; exact r.len, fun j w q => ?_, fun j k xs ys a q1 q2 s1 s2 => ?_, r.tabs⟩
  · rcases set_some_get q with ⟨rfl, e⟩ | ⟨hj, e⟩
    · cases e
      exact ⟨v, List.getElem?_set_self hi, h⟩
    · obtain ⟨y, hy, rv⟩ := r.at_ j w e
      exact ⟨y, by rw [List.getElem?_set_ne (Ne.symm hj)]; exact hy, rv⟩
  · rcases set_some_get q1 with ⟨_, e⟩ | ⟨hj, e1⟩
    · cases e
    · rcases set_some_get q2 with ⟨_, e⟩ | ⟨hk, e2⟩
      · cases e
      · rw [List.getElem?_set_ne (Ne.symm hj)] at s1
        rw [List.getElem?_set_ne (Ne.symm hk)] at s2
        exact r.inj j k xs ys a e1 e2 s1 s2
theorem own_setd {i : Nat} {v : V} {x : PyData} {b : Addr} (h : OwnA (env.set i (some (DV.d x))) (σ.set i (some v)) b) : OwnA env σ b := by
  obtain ⟨j, xs, h1, h2⟩ := h
  rcases set_some_get h1 with ⟨_, e⟩ | ⟨hj, e⟩
  · cases e
  · rw [List.getElem?_set_ne (Ne.symm hj)] at h2
    exact ⟨j, xs, e, h2⟩
/-! ### the slots of a comprehension's own names -/
theorem wipeD_some {e : DEnv} {i : Nat} {x : DV} : ∀ {vs : List Nat}, (wipeD e vs)[i]? = some (some x) → e[i]? = some (some x) ∧ i ∉ vs
  | [], h => ⟨h, by simp⟩
  | v :: vs, h => by
    rcases set_some_get (show ((wipeD e vs).set v none)[i]? = some (some x) from h) with ⟨_, e⟩ | ⟨hj, e1⟩
    · cases e
    · obtain ⟨h1, h2⟩ := wipeD_some e1
      exact ⟨h1, by simp [hj, h2]⟩
theorem wipeD_length (e : DEnv) : ∀ vs : List Nat, (wipeD e vs).length = e.length
  | [] => rfl
  | v :: vs => by
    show ((wipeD e vs).set v none).length = _
    rw [List.length_set, wipeD_length e vs]
theorem wipe_ne {σ : L2.St} {i : Nat} : ∀ {vs : List Nat}, i ∉ vs → (wipe σ vs)[i]? = σ[i]?
  | [], _ => rfl
  | v :: vs, h => by
    have h1 : i ≠ v := fun z => h (by simp [z])
    have h2 : i ∉ vs := fun z => h (by simp [z])
    show ((wipe σ vs).set v none)[i]? = _
    rw [List.getElem?_set_ne (Ne.symm h1), wipe_ne h2]
theorem RepE.wipe (r : RepE K TB H σ env) (vs : List Nat) : RepE K TB H (wipe σ vs) (wipeD env vs) := by
  refine ⟨by rw [wipeD_length, wipe_length]; exact r.len, fun j w q => ?_, fun j k xs ys a q1 q2 s1 s2 => ?_, r.tabs⟩
  · obtain ⟨h1, h2⟩ := wipeD_some q
    obtain ⟨y, hy, rv⟩ := r.at_ j w h1
    exact ⟨y, by rw [wipe_ne h2]; exact hy, rv⟩
  · exact r.inj j k xs ys a (wipeD_some q1).1 (wipeD_some q2).1 (wipe_some s1).1 (wipe_some s2).1
theorem own_wipe {vs : List Nat} {b : Addr} (h : OwnA (wipeD env vs) (wipe σ vs) b) : OwnA env σ b := by
  obtain ⟨j, xs, h1, h2⟩ := h
  exact ⟨j, xs, (wipeD_some h1).1, (wipe_some h2).1⟩
theorem wipe_set {i : Nat} {v : Option V} : ∀ {vs : List Nat}, i ∈ vs → ∀ σ : L2.St, wipe (σ.set i v) vs = wipe σ vs
  | [], h, _ => by simp at h
  | w :: vs, h, σ => by
    show (wipe (σ.set i v) vs).set w none = (wipe σ vs).set w none
    by_cases hv : i ∈ vs
    · rw [wipe_set hv]
    · have e : i = w := by simpa [hv] using h
      subst e
      have gen : ∀ (us : List Nat) (τ : L2.St), i ∉ us → wipe (τ.set i v) us = (wipe τ us).set i v := fun us => by
        induction us with
        | nil => intro τ _; rfl
        | cons u us ih =>
          intro τ hu
          have h1 : i ≠ u := fun z => hu (by simp [z])
          have h2 : i ∉ us := fun z => hu (by simp [z])
          show (wipe (τ.set i v) us).set u none = ((wipe τ us).set u none).set i v
          rw [ih τ h2, List.set_comm _ _ h1]
      rw [gen vs σ hv, List.set_set]
theorem unwipe_length (e0 e : DEnv) : ∀ vs : List Nat, (unwipe e0 e vs).length = e.length
  | [] => rfl
  | v :: vs => by
    show ((unwipe e0 e vs).set v _).length = _
    rw [List.length_set, unwipe_length e0 e vs]
theorem unwipe_ne {e0 e : DEnv} {i : Nat} : ∀ {vs : List Nat}, i ∉ vs → (unwipe e0 e vs)[i]? = e[i]?
  | [], _ => rfl
  | v :: vs, h => by
    have h1 : i ≠ v := fun z => h (by simp [z])
    have h2 : i ∉ vs := fun z => h (by simp [z])
    show ((unwipe e0 e vs).set v _)[i]? = _
    rw [List.getElem?_set_ne (Ne.symm h1), unwipe_ne h2]
theorem unwipe_in {e0 e : DEnv} {i : Nat} (hl : e0.length = e.length) : ∀ {vs : List Nat}, i ∈ vs → (unwipe e0 e vs)[i]? = e0[i]?
  | [], h => by simp at h
  | v :: vs, h => by
    show ((unwipe e0 e vs).set v ((e0[v]?).getD none))[i]? = _
    by_cases hv : i = v
    · subst hv
      by_cases hlt : i < e.length
      · have h0 : i < e0.length := by omega
        rw [List.getElem?_set_self (by rw [unwipe_length]; exact hlt), List.getElem?_eq_getElem h0]
        rfl
      · rw [List.getElem?_eq_none (by rw [List.length_set, unwipe_length]; omega), List.getElem?_eq_none (by omega)]
    · rw [List.getElem?_set_ne (Ne.symm hv)]
      exact unwipe_in hl (by simpa [hv] using h)
theorem noOwn_get {e : DEnv} {own : List Nat} (h : noOwn e own = true) {i : Nat} (hi : i ∈ own) {xs : List PyData} : e[i]? ≠ some (some (DV.own xs)) := fun q => by
  unfold noOwn at h
  have z := List.all_eq_true.mp h i hi
  rw [q] at z
  cases z
end
/-! ### targets -/
section
variable {X : Cx} {TB : TL} {W : WEx}
/-- from the slots and names ahead to those behind: only slots of vs -/
structure BR (K : PySem.W.Frag) (TB : TL) (H : Hp) (vs : List Nat) (σ : L2.St) (env : DEnv) (σ' : L2.St) (env' : DEnv) : Prop where
  rep : RepE K TB H σ' env'
  sub : ∀ b, OwnA env' σ' b → OwnA env σ b
  ne : ∀ i, i ∉ vs → σ'[i]? = σ[i]? ∧ env'[i]? = env[i]?
  wp : ∀ own : List Nat, (∀ i ∈ vs, i ∈ own) → wipe σ' own = wipe σ own
theorem BR.refl {K : PySem.W.Frag} {H : Hp} {σ : L2.St} {env : DEnv} (r : RepE K TB H σ env) : BR K TB H [] σ env σ env := ⟨r, fun _ h => h, fun _ _ => ⟨rfl, rfl⟩, fun _ _ => rfl⟩
theorem BR.trans {K : PySem.W.Frag} {H : Hp} {vs ws : List Nat} {σ σ1 σ2 : L2.St} {env env1 env2 : DEnv} (a : BR K TB H vs σ env σ1 env1) (b : BR K TB H ws σ1 env1 σ2 env2) : BR K TB H (vs ++ ws) σ env σ2 env2 :=
  ⟨b.rep, fun c h => a.sub c (b.sub c h), fun i h => by
    have h1 := a.ne i fun z => h (List.mem_append_left _ z)
    have h2 := b.ne i fun z => h (List.mem_append_right _ z)
    exact ⟨h2.1.trans h1.1, h2.2.trans h1.2⟩, fun own h => (b.wp own fun i z => h i (List.mem_append_right _ z)).trans (a.wp own fun i z => h i (List.mem_append_left _ z))⟩
def SoG (X : Cx) (TB : TL) (tg : Expr) (gT : Tg) : Prop := ∃ g : TG, PG X tg g ∧ ∀ (σ : L2.St) (H : Hp) (env env' : DEnv) (v : V) (d : PyData), RepE X.K TB H σ env → Fz X.K H v d → bindT gT d env = some env' → ∀ Q : L2.St → Hp → Prop, (∀ σ', BR X.K TB H (tgs gT) σ env σ' env' → Q σ' H) → g v σ H Q
def SoGs (X : Cx) (TB : TL) (tg : List Expr) (gT : Tgs) : Prop := ∃ g : TGs, PGs X tg g ∧ ∀ (σ : L2.St) (H : Hp) (env env' : DEnv) (v : List V) (d : List PyData), RepE X.K TB H σ env → FzAll X.K H v d → bindTs gT d env = some env' → ∀ Q : L2.St → Hp → Prop, (∀ σ', BR X.K TB H (tgss gT) σ env σ' env' → Q σ' H) → g v σ H Q
theorem so_gname {i : Nat} {x : Str} {pos : Pos} (hN : X.N.Nodup) (hi : X.N[i]? = some x) (hx : Loc X.env.scope x) (hf : X.fn x = true ∨ X.env.scope.names.lookup x = some .local) : SoG X TB (.Name x pos) (.name i) := by
  refine ⟨_, pg_name hN hi hx hf, fun σ H env env' v d r h q Q k => ?_⟩
  simp only [bindT] at q
  split at q
  case isFalse => cases q
  rename_i hlt0
  have hlt : i < σ.length := by
    rw [← r.len]
    exact hlt0
  cases q
  refine k _ ⟨r.setd hlt h, fun b z => own_setd z, fun j hj => ?_, fun own ho => wipe_set (ho i (by simp [tgs])) σ⟩
  have hj' : j ≠ i := by simpa [tgs] using hj
  exact ⟨List.getElem?_set_ne (Ne.symm hj'), List.getElem?_set_ne (Ne.symm hj')⟩
theorem so_gnil : SoGs X TB [] .nil := by
  refine ⟨_, pgs_nil, fun σ H env env' v d r h q Q k => ?_⟩
  cases d with
  | nil =>
    cases h
    cases q
    exact ⟨rfl, k σ (BR.refl r)⟩
  | cons _ _ => cases q
theorem so_gcons {e : Expr} {es : List Expr} {g : Tg} {gs : Tgs} (hs : (assignEach (e :: es) X.env).map (·.2) = assign e X.env :: (assignEach es X.env).map (·.2)) (h1 : SoG X TB e g) (h2 : SoGs X TB es gs) : SoGs X TB (e :: es) (.cons g gs) := by
  obtain ⟨t, p, s⟩ := h1
  obtain ⟨ts, ps, ss⟩ := h2
  refine ⟨_, pgs_cons p ps hs, fun σ H env env' v d r h q Q k => ?_⟩
  cases d with
  | nil => cases q
  | cons x xs =>
    cases h with
    | cons ha hr =>
      simp only [bindTs] at q
      split at q
      · rename_i e1 he
        refine ⟨_, _, rfl, s σ H env e1 _ _ r ha he _ fun σ1 b1 => ?_⟩
        exact ss σ1 H e1 env' _ _ b1.rep hr q _ fun σ2 b2 => k σ2 (b1.trans b2)
      · cases q
theorem so_gtup {es : List Expr} {n : Nat} {gs : Tgs} {pos : Pos} (hc : X.calm = true) (hst : (assignEach es X.env).findIdx? (·.1) = none) (hn : ∀ xs e e', bindTs gs xs e = some e' → xs.length = (assignEach es X.env).length) (h : SoGs X TB es gs) : SoG X TB (.Tuple es n pos) (.tup gs) := by
  obtain ⟨t, p, s⟩ := h
  refine ⟨_, pg_tup hc p rfl hst, fun σ H env env' v d r h q Q k => ?_⟩
  cases d <;> simp only [bindT, reduceCtorEq] at q
  cases h with
  | tup hs al => exact ⟨_, _, rfl, hs, by rw [al.length]; exact hn _ _ _ q, s σ H env env' _ _ r al q Q k⟩
end
end Wd
/-! Wd 10: what is walked; comprehensions. -/
namespace Wd
open PySem PySem.Spec PyProof.Rows L2
section
variable {X : Cx} {TB : TL} {W : WEx}
/-- an iterator that yields these data, whatever else happens -/
def ItD (K : PySem.W.Frag) (J : It) (H1 : Hp) (xs : List PyData) : Prop := ∀ H2, Stay H1 H2 → ∀ i : Nat, (∀ d, xs[i]? = some d → J.go i H2 ∧ ∀ x H3, J.yld i H2 x H3 → (H3 = H2 ∨ ∃ p o, H2 p = none ∧ H3 = upd H2 p o) ∧ Fz K H3 x d) ∧ (xs[i]? = none → J.stop i H2)
def SoI (X : Cx) (TB : TL) (W : WEx) (tg it : Expr) (f : DEnv → R (List PyData)) : Prop := ∃ wi : TI, PI X tg it wi ∧ Snd X.K TB W wi f (fun _ H' _ _ J xs => ItD X.K J H' xs)
theorem stay_sqL {K : PySem.W.Frag} {H H' : Hp} {a : Addr} {o : Obj} {vs : List V} (st : Stay H H') (h : H a = some (.frz o (.lst vs))) : SqL K H' a vs := .inl (.inr ⟨o, st.2 _ _ _ h⟩)
/-- a locked list, or one of the module's -/
theorem fz_list {K : PySem.W.Frag} {H : Hp} {v : V} {xs : List PyData} (h : Fz K H v (.list xs)) : ∃ a vs, v = .ref a ∧ FzAll K H vs xs ∧ ∀ H', Stay H H' → SqL K H' a vs := by
  cases h with
  | lst h al => exact ⟨_, _, rfl, al, fun H' st => stay_sqL st h⟩
  | lstK h1 h2 h3 h4 h5 h6 al => exact ⟨_, _, rfl, al, fun H' _ => .inr ⟨_, _, _, h1, h2, h3, h4, h5, h6⟩⟩
theorem fz_tup {K : PySem.W.Frag} {H : Hp} {v : V} {xs : List PyData} (h : Fz K H v (.tuple xs)) : ∃ a vs, v = .ref a ∧ FzAll K H vs xs ∧ ∀ H', Stay H H' → SqT K H' a vs := by
  cases h with
  | tup h al => exact ⟨_, _, rfl, al, fun H' st => st.sqT h⟩
theorem get_len {K : PySem.W.Frag} {H : Hp} {vs : List V} {xs : List PyData} (al : FzAll K H vs xs) {i : Nat} (h : xs[i]? = none) : vs.length ≤ i := by
  rw [al.length]
  exact List.getElem?_eq_none_iff.mp h
theorem itd_list {K : PySem.W.Frag} {H : Hp} {a : Addr} {vs : List V} {xs : List PyData} (al : FzAll K H vs xs) (s : ∀ H', Stay H H' → SqL K H' a vs) : ItD K (Itl K a) H xs := by
  intro H2 st i
  refine ⟨fun d hd => ?_, fun hn => ⟨vs, s H2 st, get_len al hn⟩⟩
  obtain ⟨v, hv, fv⟩ := al.get hd
  refine ⟨⟨vs, v, s H2 st, hv⟩, fun x H3 y => ?_⟩
  obtain ⟨rfl, y⟩ := y
  have e := y vs (s _ st)
  rw [hv] at e
  cases e
  exact ⟨.inl rfl, Fz.stay st fv⟩
theorem itd_tup {K : PySem.W.Frag} {H : Hp} {a : Addr} {vs : List V} {xs : List PyData} (al : FzAll K H vs xs) (s : ∀ H', Stay H H' → SqT K H' a vs) : ItD K (Itt K a) H xs := by
  intro H2 st i
  refine ⟨fun d hd => ?_, fun hn => ⟨vs, s H2 st, get_len al hn⟩⟩
  obtain ⟨v, hv, fv⟩ := al.get hd
  refine ⟨⟨vs, v, s H2 st, hv⟩, fun x H3 y => ?_⟩
  obtain ⟨rfl, y⟩ := y
  have e := y vs (s _ st)
  rw [hv] at e
  cases e
  exact ⟨.inl rfl, Fz.stay st fv⟩
theorem itd_str {K : PySem.W.Frag} {H : Hp} (z : Str) : ItD K (Its z) H (z.cps.toList.map fun c => .str ⟨#[c]⟩) := by
  intro H2 st i
  refine ⟨fun d hd => ?_, fun hn => ?_⟩
  · rw [List.getElem?_map, Option.map_eq_some_iff] at hd
    obtain ⟨c, hc, rfl⟩ := hd
    have hc' : z.cps[i]? = some c := by
      rw [← Array.getElem?_toList]
      exact hc
    refine ⟨(Array.getElem?_eq_some_iff.mp hc').1, fun x H3 y => ?_⟩
    obtain ⟨rfl, c', h', rfl⟩ := y
    rw [hc'] at h'
    cases h'
    exact ⟨.inl rfl, .str _⟩
  · have h := List.getElem?_eq_none_iff.mp hn
    rw [List.length_map, Array.length_toList] at h
    exact h
theorem itd_range {K : PySem.W.Frag} {H : Hp} (lo : Int) (n : Nat) : ItD K (Itr lo n) H (rangeD lo n) := by
  intro H2 st i
  unfold rangeD
  refine ⟨fun d hd => ?_, fun hn => ?_⟩
  · rw [List.getElem?_map, Option.map_eq_some_iff] at hd
    obtain ⟨c, hc, rfl⟩ := hd
    obtain ⟨hlt0, hce⟩ := List.getElem?_eq_some_iff.mp hc
    have hlt : i < n := by simpa using hlt0
    have hce' : i = c := by simpa using hce
    subst hce'
    refine ⟨hlt, fun x H3 y => ?_⟩
    obtain ⟨rfl, rfl⟩ := y
    exact ⟨.inl rfl, .int _⟩
  · have h := List.getElem?_eq_none_iff.mp hn
    rw [List.length_map, List.length_range] at h
    exact h
theorem enumD_get : ∀ (xs : List PyData) (k i : Nat), (enumD k xs)[i]? = (xs[i]?).map fun x => .tuple [.int ((k + i : Nat) : Int), x]
  | [], k, i => by simp [enumD]
  | x :: r, k, 0 => by simp [enumD]
  | x :: r, k, i + 1 => by
    show (enumD (k + 1) r)[i]? = _
    rw [enumD_get r (k + 1) i, List.getElem?_cons_succ]
    have e : k + 1 + i = k + (i + 1) := by omega
    rw [e]
theorem itd_enum {K : PySem.W.Frag} {H : Hp} {a : Addr} {vs : List V} {xs : List PyData} (al : FzAll K H vs xs) (s : ∀ H', Stay H H' → SqL K H' a vs) : ItD K (Ite K a) H (enumD 0 xs) := by
  intro H2 st i
  rw [enumD_get]
  refine ⟨fun d hd => ?_, fun hn => ⟨vs, s H2 st, get_len al (by simpa using hn)⟩⟩
  rw [Option.map_eq_some_iff] at hd
  obtain ⟨e, he, rfl⟩ := hd
  obtain ⟨v, hv, fv⟩ := al.get he
  refine ⟨⟨vs, v, s H2 st, hv⟩, fun x H3 y => ?_⟩
  obtain ⟨T, u, rfl, n, rfl, y⟩ := y
  have e1 := y vs (s _ st)
  rw [hv] at e1
  cases e1
  refine ⟨.inr ⟨T, _, n, rfl⟩, .tup (.inl (.inl upd_same)) (.cons ?_ (.cons (Fz.stay (st.trans (stay_new n)) fv) .nil))⟩
  rw [Nat.zero_add]
  exact .int _
theorem zip_get {α β γ : Type} {f : α → β → γ} {xs : List α} {ys : List β} {i : Nat} {d : γ} (h : (List.zipWith f xs ys)[i]? = some d) : ∃ x y, xs[i]? = some x ∧ ys[i]? = some y ∧ d = f x y := by
  rw [List.getElem?_zipWith] at h
  cases hx : xs[i]? with
  | none => rw [hx] at h; cases h
  | some x =>
    cases hy : ys[i]? with
    | none => rw [hx, hy] at h; cases h
    | some y =>
      rw [hx, hy] at h
      cases h
      exact ⟨x, y, rfl, rfl, rfl⟩
theorem zip_none {α β γ : Type} {f : α → β → γ} {xs : List α} {ys : List β} {i : Nat} (h : (List.zipWith f xs ys)[i]? = none) : xs.length ≤ i ∨ ys.length ≤ i := by
  have := List.getElem?_eq_none_iff.mp h
  rw [List.length_zipWith] at this
  omega
theorem itd_zip {K : PySem.W.Frag} {H : Hp} {a b : Addr} {vs ws : List V} {xs ys : List PyData} (al : FzAll K H vs xs) (s : ∀ H', Stay H H' → SqL K H' a vs) (bl : FzAll K H ws ys) (t : ∀ H', Stay H H' → SqL K H' b ws) : ItD K (Itz K a b) H (List.zipWith (fun u v => .tuple [u, v]) xs ys) := by
  intro H2 st i
  refine ⟨fun d hd => ?_, fun hn => ⟨vs, ws, s H2 st, t H2 st, by rw [al.length, bl.length]; exact zip_none hn⟩⟩
  obtain ⟨x, y, hx, hy, rfl⟩ := zip_get hd
  obtain ⟨v, hv, fv⟩ := al.get hx
  obtain ⟨w, hw, fw⟩ := bl.get hy
  refine ⟨⟨vs, ws, v, w, s H2 st, t H2 st, hv, hw⟩, fun z H3 q => ?_⟩
  obtain ⟨T, v', w', rfl, n, rfl, q1, q2⟩ := q
  have e1 := q1 vs (s _ st)
  rw [hv] at e1
  cases e1
  have e2 := q2 ws (t _ st)
  rw [hw] at e2
  cases e2
  exact ⟨.inr ⟨T, _, n, rfl⟩, .tup (.inl (.inl upd_same)) (.cons (Fz.stay (st.trans (stay_new n)) fv) (.cons (Fz.stay (st.trans (stay_new n)) fw) .nil))⟩
theorem itd_zipT {K : PySem.W.Frag} {H : Hp} {a b : Addr} {vs ws : List V} {xs ys : List PyData} (al : FzAll K H vs xs) (s : ∀ H', Stay H H' → SqT K H' a vs) (bl : FzAll K H ws ys) (t : ∀ H', Stay H H' → SqT K H' b ws) : ItD K (RZ.ItzT K a b) H (List.zipWith (fun u v => .tuple [u, v]) xs ys) := by
  intro H2 st i
  refine ⟨fun d hd => ?_, fun hn => ⟨vs, ws, s H2 st, t H2 st, by rw [al.length, bl.length]; exact zip_none hn⟩⟩
  obtain ⟨x, y, hx, hy, rfl⟩ := zip_get hd
  obtain ⟨v, hv, fv⟩ := al.get hx
  obtain ⟨w, hw, fw⟩ := bl.get hy
  refine ⟨⟨vs, ws, v, w, s H2 st, t H2 st, hv, hw⟩, fun z H3 q => ?_⟩
  obtain ⟨T, v', w', rfl, n, rfl, q1, q2⟩ := q
  have e1 := q1 vs (s _ st)
  rw [hv] at e1
  cases e1
  have e2 := q2 ws (t _ st)
  rw [hw] at e2
  cases e2
  exact ⟨.inr ⟨T, _, n, rfl⟩, .tup (.inl (.inl upd_same)) (.cons (Fz.stay (st.trans (stay_new n)) fv) (.cons (Fz.stay (st.trans (stay_new n)) fw) .nil))⟩
theorem PI.or {tg it : Expr} {w1 w2 : TI} (h1 : PI X tg it w1) (h2 : PI X tg it w2) : PI X tg it (fun σ H R => w1 σ H R ∨ w2 σ H R) :=
  ⟨fun pins s σ H R I h => h.elim (fun q => h1.run pins s σ H R I q) fun q => h2.run pins s σ H R I q⟩
section
variable {tg e : Expr} {f : DEnv → R PV}
theorem so_data (he : SoE X TB W e f) : SoI X TB W tg e (fun e => (f e).bind fun p e1 => match frz p e1 with
    | some (x, e2) => lift1 (items x) e2
    | none => .bad) := by
  obtain ⟨t, p, s⟩ := he
  refine ⟨_, PI.or (pi_list (pe_gf p)) (PI.or (pi_tup (pe_gf p)) (pi_str (pe_gf p))), fun σ H env re => ?_⟩
  have s0 := s σ H env re
  dsimp only
  cases hf : f env with
  | bad => exact sa_bad
  | exc k =>
    rw [hf] at s0
    exact ⟨fun _ _ q => (nomatch q), fun k' q hw R => by cases q; exact .inl (s0.2 k rfl hw _)⟩
  | ok pv env1 =>
    rw [hf] at s0
    simp only [R.bind_ok]
    cases hz : frz pv env1 with
    | none => exact sa_bad
    | some w =>
      obtain ⟨x, env2⟩ := w
      dsimp only
      refine lift1_sa fun xs hxs => ?_
      refine sa_val fun R k => ?_
      cases x <;> simp only [items, reduceCtorEq] at hxs
      · cases hxs
        rename_i z
        refine .inr (.inr (s0.1 pv env1 rfl _ fun v H1 e1 r1 => frz_gf e1 r1 hz fun H2 e2 _ fz => ?_))
        cases fz
        exact ⟨z, rfl, k _ H2 e2 (itd_str z)⟩
      · cases hxs
        refine .inl (s0.1 pv env1 rfl _ fun v H1 e1 r1 => frz_gf e1 r1 hz fun H2 e2 _ fz => ?_)
        obtain ⟨a, vs, rfl, al, sq⟩ := fz_list fz
        exact ⟨a, rfl, ⟨vs, sq _ (Stay.refl _)⟩, k _ H2 e2 (itd_list al sq)⟩
      · cases hxs
        refine .inr (.inl (s0.1 pv env1 rfl _ fun v H1 e1 r1 => frz_gf e1 r1 hz fun H2 e2 _ fz => ?_))
        obtain ⟨a, vs, rfl, al, sq⟩ := fz_tup fz
        exact ⟨a, rfl, ⟨vs, sq _ (Stay.refl _)⟩, k _ H2 e2 (itd_tup al sq)⟩
theorem small62_iff {i : Int} (h : small62 i = true) : -(2 ^ 62) ≤ i ∧ i < 2 ^ 62 := by
  simpa [small62] using h
theorem so_rng1 {p pos : Pos} (hg : Gl X "range") (hm : X.mg "range" = none) (hs : starEach [e] X.env = [(false, eval e X.env)]) (he : SoE X TB W e f) : SoI X TB W tg (.Call (.Name "range" p) [e] [] pos) (fun e => (f e).bind fun p e1 => match res p e1 with
    | some (.int n) => if small62 n then .ok (rangeD 0 n.toNat) e1 else .bad
    | _ => .bad) := by
  obtain ⟨t, pe, s⟩ := he
  refine ⟨_, pi_range1 hg hm (pa_cons pe pa_nil hs) hs, fun σ H env re => ?_⟩
  show SndAt X.K TB W σ H env (fun R => t σ H fun x H1 => ∃ j : Int, [x] = [V.int j] ∧ -(2 ^ 62) ≤ j ∧ j < 2 ^ 62 ∧ R (Itr 0 j.toNat) H1) _ _
  refine sa_bind (s σ H env re) fun x p H1 env1 e1 r1 => ?_
  split
  · rename_i n hn
    split
    · rename_i h
      cases (res_rd e1 r1 hn).int
      exact sa_val fun R k => ⟨n, rfl, (small62_iff h).1, (small62_iff h).2, k _ H1 e1 (itd_range 0 _)⟩
    · exact sa_bad
  · exact sa_bad
theorem so_rng2 {e2 : Expr} {f2 : DEnv → R PV} {p pos : Pos} (hg : Gl X "range") (hm : X.mg "range" = none) (hs : starEach [e, e2] X.env = [(false, eval e X.env), (false, eval e2 X.env)]) (hs2 : starEach [e2] X.env = [(false, eval e2 X.env)]) (he : SoE X TB W e f) (he2 : SoE X TB W e2 f2) : SoI X TB W tg (.Call (.Name "range" p) [e, e2] [] pos) (fun e => (f e).bind fun p e1 => (f2 e1).bind fun q e2 => match res p e2, res q e2 with
    | some (.int n), some (.int m) => if small62 n && small62 m then .ok (rangeD n (m - n).toNat) e2 else .bad
    | _, _ => .bad) := by
  obtain ⟨t, pe, s⟩ := he
  obtain ⟨t2, pe2, s2⟩ := he2
  refine ⟨_, pi_range2 hg hm (pa_cons pe (pa_cons pe2 pa_nil hs2) (by rw [hs, hs2])) hs hs2, fun σ H env re => ?_⟩
  show SndAt X.K TB W σ H env (fun R => t σ H fun x H1 => t2 σ H1 fun y H2 => ∃ i j : Int, [x, y] = [V.int i, V.int j] ∧ (-(2 ^ 62) ≤ i ∧ i < 2 ^ 62 ∧ -(2 ^ 62) ≤ j ∧ j < 2 ^ 62) ∧ R (Itr i (j - i).toNat) H2) _ _
  refine sa_bind (s σ H env re) fun x p H1 env1 e1 r1 => ?_
  refine sa_bind (s2.at e1) fun y q H2 env2 e2 ⟨e12, r2⟩ => ?_
  split
  · rename_i n m hn hm'
    split
    · rename_i h
      rw [Bool.and_eq_true] at h
      cases (res_rd e2 (r1.later e1 e12) hn).int
      cases (res_rd e2 (r2.whole e1) hm').int
      exact sa_val fun R k => ⟨n, m, rfl, ⟨(small62_iff h.1).1, (small62_iff h.1).2, (small62_iff h.2).1, (small62_iff h.2).2⟩, k _ H2 e2 (itd_range n _)⟩
    · exact sa_bad
  · exact sa_bad
theorem so_enum {fs : DEnv → R (List PyData)} {p pos tpos : Pos} {elts : List Expr} {kk : Nat} (hg : Gl X "enumerate") (hm : X.mg "enumerate" = none) (hs : starEach [e] X.env = [(false, eval e X.env)]) (ha : SoA X TB W [e] fs) : SoI X TB W (.Tuple elts kk tpos) (.Call (.Name "enumerate" p) [e] [] pos) (fun e => (fs e).bind fun xs e1 => lift1 (enumOf xs) e1) := by
  obtain ⟨t, pa, s⟩ := ha
  refine ⟨_, pi_enum hg hm pa hs, fun σ H env re => ?_⟩
  show SndAt X.K TB W σ H env (fun R => t σ H fun vs H1 => ∃ a xs, vs = [V.ref a] ∧ SqL X.K H1 a xs ∧ R (Ite X.K a) H1) _ _
  refine sa_bind (s σ H env re) fun vs xs H1 env1 e1 r1 => ?_
  refine lift1_sa fun ys hy => ?_
  unfold enumOf at hy
  split at hy
  · cases hy
    cases r1 with
    | cons h r =>
      cases r
      obtain ⟨a, ws, rfl, al, sq⟩ := fz_list h
      exact sa_val fun R k => ⟨a, ws, rfl, sq _ (Stay.refl _), k _ H1 e1 (itd_enum al sq)⟩
  · cases hy
theorem so_zip {e2 : Expr} {fs : DEnv → R (List PyData)} {p pos tpos : Pos} {elts : List Expr} {kk : Nat} (hg : Gl X "zip") (hm : X.mg "zip" = none) (hs : starEach [e, e2] X.env = (false, eval e X.env) :: starEach [e2] X.env) (hpl : (backTo pos (starEach [e2] X.env)).any (·.1) = false) (ha : SoA X TB W [e, e2] fs) : SoI X TB W (.Tuple elts kk tpos) (.Call (.Name "zip" p) [e, e2] [] pos) (fun e => (fs e).bind fun xs e1 => lift1 (zipOf xs) e1) := by
  obtain ⟨t, pa, s⟩ := ha
  refine ⟨_, RZ.pi_zipA hg hm pa hs hpl, fun σ H env re => ?_⟩
  show SndAt X.K TB W σ H env (fun R => t σ H fun vs H1 => ∃ a b xs ys, vs = [V.ref a, V.ref b] ∧ ((SqL X.K H1 a xs ∧ SqL X.K H1 b ys ∧ R (Itz X.K a b) H1) ∨ (SqT X.K H1 a xs ∧ SqT X.K H1 b ys ∧ R (RZ.ItzT X.K a b) H1))) _ _
  refine sa_bind (s σ H env re) fun vs xs H1 env1 e1 r1 => ?_
  refine lift1_sa fun ys hy => ?_
  unfold zipOf at hy
  split at hy
  · cases hy
    cases r1 with
    | cons h r =>
      cases r with
      | cons h2 r =>
        cases r
        obtain ⟨a, ws, rfl, al, sq⟩ := fz_list h
        obtain ⟨b, us, rfl, bl, sq2⟩ := fz_list h2
        exact sa_val fun R k => ⟨a, b, ws, us, rfl, .inl ⟨sq _ (Stay.refl _), sq2 _ (Stay.refl _), k _ H1 e1 (itd_zip al sq bl sq2)⟩⟩
  · cases hy
    cases r1 with
    | cons h r =>
      cases r with
      | cons h2 r =>
        cases r
        obtain ⟨a, ws, rfl, al, sq⟩ := fz_tup h
        obtain ⟨b, us, rfl, bl, sq2⟩ := fz_tup h2
        exact sa_val fun R k => ⟨a, b, ws, us, rfl, .inr ⟨sq _ (Stay.refl _), sq2 _ (Stay.refl _), k _ H1 e1 (itd_zipT al sq bl sq2)⟩⟩
  · cases hy
end
end
end Wd
/-! Wd 11: comprehensions. -/
namespace Wd
open PySem PySem.Spec PyProof.Rows L2
section
variable {K : PySem.W.Frag} {TB : TL} {W : WEx} {α β : Type}
/-- the reading that the interpreter itself gives -/
def can (K : PySem.W.Frag) (TB : TL) (W : WEx) (f : DEnv → R α) (Rl : Hp → Hp → L2.St → DEnv → β → α → Prop) : L2.St → Hp → (β → Hp → Prop) → Prop := fun σ H Q =>
  ∃ env, RepE K TB H σ env ∧ ((∃ a env', f env = .ok a env' ∧ ∀ b H', EP1 K TB σ H env H' env' → Rl H H' σ env' b a → Q b H') ∨ ∃ k, f env = .exc k ∧ ∀ d H', Ext (OwnA env σ) H H' → LamX.Tabs TB H' → W k d H')
theorem can_imp {t : L2.St → Hp → (β → Hp → Prop) → Prop} {f : DEnv → R α} {Rl : Hp → Hp → L2.St → DEnv → β → α → Prop} (h : Snd K TB W t f Rl) {σ : L2.St} {H : Hp} {Q : β → Hp → Prop} (c : can K TB W f Rl σ H Q) : t σ H Q := by
  obtain ⟨env, r, ⟨a, env', e, k⟩ | ⟨k, e, w⟩⟩ := c
  · exact (h σ H env r).1 a env' e Q k
  · exact (h σ H env r).2 k e w Q
abbrev RE (K : PySem.W.Frag) : Hp → Hp → L2.St → DEnv → V → PV → Prop := fun H H' σ env' v pv => PR K H H' σ env' v pv
abbrev RT : Hp → Hp → L2.St → DEnv → Bool → Bool → Prop := fun _ _ _ _ b a => b = a
end
section
variable {X : Cx} {TB : TL} {W : WEx}
theorem SoE.can {e : Expr} {f : DEnv → R PV} (h : SoE X TB W e f) : PE X e (can X.K TB W f (RE X.K)) := by
  obtain ⟨t, p, s⟩ := h
  exact ⟨fun pins s' σ H Q I c => p.run pins s' σ H Q I (can_imp s c)⟩
def SoTs (X : Cx) (TB : TL) (W : WEx) (es : List Expr) (f : DEnv → R Bool) : Prop := ∃ t, PTs X es t ∧ Snd X.K TB W t f RT
theorem so_tsnil : SoTs X TB W [] (fun e => .ok true e) := ⟨_, pts_nil, fun σ H env re => sa_val fun Q k => k true H (EP1.refl re) rfl⟩
theorem so_tsone {c : Expr} {f : DEnv → R Bool} (h : SoT X TB W c f) : SoTs X TB W [c] (fun e => (f e).bind fun b e1 => if b then .ok true e1 else .ok false e1) := by
  obtain ⟨t, p, s⟩ := h
  refine ⟨_, pts_one p, fun σ H env re => ?_⟩
  refine sa_bind (pu := fun x H1 Q => Q x H1) (s σ H env re) fun x t H1 env1 e1 r1 => ?_
  cases r1
  cases x <;> exact sa_ok e1 rfl
theorem SoTs.can {es : List Expr} {f : DEnv → R Bool} (h : SoTs X TB W es f) : PTs X es (can X.K TB W f RT) := by
  obtain ⟨t, p, s⟩ := h
  exact ⟨fun pins s' σ H Q I c => p.run pins s' σ H Q I (can_imp s c)⟩
def canG (K : PySem.W.Frag) (TB : TL) (g : Tg) : TG := fun v σ H Q => ∃ env env' d, RepE K TB H σ env ∧ Fz K H v d ∧ bindT g d env = some env' ∧ ∀ σ', BR K TB H (tgs g) σ env σ' env' → Q σ' H
theorem SoG.can {tg : Expr} {g : Tg} (h : SoG X TB tg g) : PG X tg (canG X.K TB g) := by
  obtain ⟨t, p, s⟩ := h
  refine ⟨fun pins s' σ H v u Q I r c => p.run pins s' σ H v u Q I r ?_⟩
  obtain ⟨env, env', d, re, fz, hb, k⟩ := c
  exact s σ H env env' v d re fz hb Q k
/-- into a comprehension's block and back -/
theorem EP1.unblock {K : PySem.W.Frag} {σ σ2 : L2.St} {H H3 : Hp} {env env1 env3 : DEnv} {own vs : List Nat} (re : RepE K TB H σ env) (br : BR K TB H vs (wipe σ own) (wipeD env own) σ2 env1) (hv : ∀ i ∈ vs, i ∈ own) (no : noOwn env own = true) (e : EP1 K TB σ2 H env1 H3 env3) :
    EP1 K TB σ H env H3 (unwipe env env3 own) := by
  have l2 : σ2.length = σ.length := by
    have := e.rep.len
    have h1 := br.rep.len
    have w : wipe σ2 own = wipe (wipe σ own) own := br.wp own hv
    have q := congrArg List.length w
    rw [wipe_length, wipe_length, wipe_length] at q
    exact q
  have l3 : env3.length = env.length := by rw [e.rep.len, l2, re.len]
  have subO : ∀ b, OwnA env1 σ2 b → OwnA env σ b := fun b z => own_wipe (br.sub b z)
  have st : Stay H H3 := e.stay
  have out : ∀ {i : Nat}, i ∉ own → σ2[i]? = σ[i]? := fun {i} hi => by rw [(br.ne i fun z => hi (hv i z)).1, wipe_ne hi]
  have at3 : ∀ (i : Nat) (v : DV), (unwipe env env3 own)[i]? = some (some v) → (i ∈ own ∧ env[i]? = some (some v)) ∨ (i ∉ own ∧ env3[i]? = some (some v)) := fun i v q => by
    by_cases hi : i ∈ own
    · rw [unwipe_in l3.symm hi] at q
      exact .inl ⟨hi, q⟩
    · rw [unwipe_ne hi] at q
      exact .inr ⟨hi, q⟩
  refine ⟨e.ext.mono subO, ⟨by rw [unwipe_length, l3]; exact re.len, fun i v q => ?_, fun i j xs ys a q1 q2 s1 s2 => ?_, e.rep.tabs⟩, fun b z => ?_, fun i w q => ?_, e.gone, re.own_lst⟩
  · rcases at3 i v q with ⟨hi, q⟩ | ⟨hi, q⟩
    · obtain ⟨x, hx, rv⟩ := re.at_ i v q
      refine ⟨x, hx, ?_⟩
      cases v with
      | d y => exact Fz.stay st rv
      | own ys => exact (noOwn_get no hi q).elim
    · obtain ⟨x, hx, rv⟩ := e.rep.at_ i v q
      exact ⟨x, by rw [← out hi]; exact hx, rv⟩
  · rcases at3 i _ q1 with ⟨hi, q1⟩ | ⟨hi, q1⟩
    · exact (noOwn_get no hi q1).elim
    · rcases at3 j _ q2 with ⟨hj, q2⟩ | ⟨hj, q2⟩
      · exact (noOwn_get no hj q2).elim
      · exact e.rep.inj i j xs ys a q1 q2 (by rw [out hi]; exact s1) (by rw [out hj]; exact s2)
  · obtain ⟨i, xs, q, hs⟩ := z
    rcases at3 i _ q with ⟨hi, q⟩ | ⟨hi, q⟩
    · exact (noOwn_get no hi q).elim
    · exact subO b (e.sub b ⟨i, xs, q, by rw [out hi]; exact hs⟩)
  · by_cases hi : i ∈ own
    · exact ⟨w, by rw [unwipe_in l3.symm hi]; exact q⟩
    · have q1 : env1[i]? = some (some w) := by
        rw [(br.ne i fun z => hi (hv i z)).2]
        have gen : ∀ us : List Nat, i ∉ us → (wipeD env us)[i]? = env[i]? := fun us => by
          induction us with
          | nil => intro _; rfl
          | cons u us ih =>
            intro hu
            have h1 : i ≠ u := fun z => hu (by simp [z])
            have h2 : i ∉ us := fun z => hu (by simp [z])
            show ((wipeD env us).set u none)[i]? = _
            rw [List.getElem?_set_ne (Ne.symm h1), ih h2]
        rw [gen own hi]
        exact q
      obtain ⟨w', h'⟩ := e.asg i w q1
      exact ⟨w', by rw [unwipe_ne hi]; exact h'⟩
theorem noOwn_unwipe {env env3 : DEnv} {own : List Nat} (hl : env.length = env3.length) (h : noOwn env own = true) : noOwn (unwipe env env3 own) own = true := by
  unfold noOwn at h ⊢
  rw [List.all_eq_true] at h ⊢
  intro i hi
  rw [unwipe_in hl hi]
  exact h i hi
theorem wipe_wipe (σ : L2.St) (own : List Nat) : wipe (wipe σ own) own = wipe σ own := by
  apply List.ext_getElem?
  intro j
  by_cases hj : j ∈ own
  · have hw : ∀ τ : L2.St, (wipe τ own)[j]? = (τ[j]?).map fun _ => none := by
      intro τ
      cases q : (wipe τ own)[j]? with
      | none =>
        have h1 := List.getElem?_eq_none_iff.mp q
        rw [wipe_length] at h1
        rw [List.getElem?_eq_none h1]
        rfl
      | some w =>
        have h1 := (List.getElem?_eq_some_iff.mp q).1
        rw [wipe_length] at h1
        rw [List.getElem?_eq_getElem h1]
        cases w with
        | none => rfl
        | some v => exact ((wipe_some q).2 hj).elim
    rw [hw, hw]
    cases σ[j]? <;> rfl
  · rw [wipe_ne hj]
abbrev noW : WEx := fun _ _ _ => False
/-- a comprehension's reading -/
theorem lc_snd {wi : TI} {fi : DEnv → R (List PyData)} {g : Tg} {ft : DEnv → R Bool} {fe : DEnv → R PV} {own : List Nat} (hg : ∀ i ∈ tgs g, i ∈ own) (hi : Snd X.K TB W wi fi (fun _ H' _ _ J xs => ItD X.K J H' xs)) :
    Snd X.K TB W (tLc wi (canG X.K TB g) (can X.K TB noW ft RT) (tGF (can X.K TB noW fe (RE X.K))) own) (fun e => (fi e).bind fun xs e1 => if noOwn e1 own then (lcGo g own ft (fun e2 => (fe e2).bind fun p e3 => match frz p e3 with
      | some (x, e4) => .ok x e4
      | none => .bad) xs [] e1).bind fun ys e2 => .ok (PV.val (.own ys)) e2 else .bad) (RE X.K) := by
  intro σ H env re
  unfold tLc
  refine sa_bind (hi σ H env re) fun J xs H1 env1 e1 itd => ?_
  split
  case isFalse => exact sa_bad
  rename_i no
  cases hgo : lcGo g own ft (fun e2 => (fe e2).bind fun p e3 => match frz p e3 with
      | some (x, e4) => R.ok x e4
      | none => .bad) xs [] env1 with
  | bad => exact sa_bad
  | exc k =>
    -- a comprehension lets nothing out
    have gen : ∀ (l acc : List PyData) (e : DEnv) (k : Nat), lcGo g own ft (fun e2 => (fe e2).bind fun p e3 => match frz p e3 with
      | some (x, e4) => R.ok x e4
      | none => .bad) l acc e ≠ .exc k := by
      intro l
      induction l with
      | nil => intro acc e k q; cases q
      | cons x r ih =>
        intro acc e k q
        unfold lcGo at q
        split at q
        · cases q
        · cases ht : ft _ with
          | bad => rw [ht] at q; cases q
          | exc _ => rw [ht] at q; cases q
          | ok b e2 =>
            rw [ht] at q
            simp only [noExc, R.bind_ok] at q
            split at q
            · revert q
              cases hq : (fe e2).bind fun p e3 => match frz p e3 with
                | some (x, e4) => R.ok x e4
                | none => .bad with
              | bad => intro q; cases q
              | exc _ => intro q; cases q
              | ok y e3 =>
                intro q
                simp only [noExc, R.bind_ok] at q
                split at q
                · exact ih _ _ _ q
                · cases q
            · exact ih _ _ _ q
    exact (gen _ _ _ _ hgo).elim
  | ok ys env2 =>
    refine sa_val fun Q kk => ?_
    intro D hD
    have hD0 : H D = none := e1.gone D hD
    refine ⟨fun i m H2 => ∃ envi acc vsA, m = xs.length - i ∧ i ≤ xs.length ∧ EP1 X.K TB σ H env H2 envi ∧ Stay H1 H2 ∧ noOwn envi own = true ∧ H2 D = some (.lst vsA) ∧ FzAll X.K H2 vsA acc ∧ lcGo g own ft (fun e2 => (fe e2).bind fun p e3 => match frz p e3 with
      | some (x, e4) => R.ok x e4
      | none => .bad) (xs.drop i) acc envi = .ok ys env2, ⟨xs.length, env1, [], [], by omega, Nat.zero_le _, e1.new hD, stay_new hD, no, upd_same, .nil, by rw [List.drop_zero]; exact hgo⟩, fun i m H2 hW => ?_⟩
    obtain ⟨envi, acc, vsA, rfl, hile, e2, st2, no2, hDl, fa, go⟩ := hW
    obtain ⟨it1, it2⟩ := itd H2 st2 i
    by_cases hlt : i < xs.length
    case neg =>
      have hn : xs[i]? = none := List.getElem?_eq_none_iff.mpr (by omega)
      refine .inl ⟨it2 hn, ?_⟩
      rw [List.drop_eq_nil_of_le (by omega)] at go
      cases go
      exact kk _ H2 e2 ⟨D, vsA, rfl, hDl, fa, hD0⟩
    case pos =>
      obtain ⟨d, hd⟩ : ∃ d, xs[i]? = some d := ⟨xs[i], List.getElem?_eq_getElem hlt⟩
      have hdrop : xs.drop i = d :: xs.drop (i + 1) := by
        rw [List.drop_eq_getElem_cons hlt]
        have := List.getElem?_eq_getElem hlt
        rw [hd] at this
        cases this
        rfl
      rw [hdrop] at go
      unfold lcGo at go
      obtain ⟨itg, ity⟩ := it1 d hd
      refine .inr ⟨itg, fun H' => ∃ envi acc vsA, i + 1 ≤ xs.length ∧ EP1 X.K TB σ H env H' envi ∧ Stay H1 H' ∧ noOwn envi own = true ∧ H' D = some (.lst vsA) ∧ FzAll X.K H' vsA acc ∧ lcGo g own ft (fun e2 => (fe e2).bind fun p e3 => match frz p e3 with
        | some (x, e4) => R.ok x e4
        | none => .bad) (xs.drop (i + 1)) acc envi = .ok ys env2, fun H' ⟨envi, acc, vsA, q⟩ => ⟨xs.length - (i + 1), by omega, envi, acc, vsA, rfl, q⟩, fun x H3 y => ?_⟩
      obtain ⟨hg3, fz⟩ := ity x H3 y
      -- behind the yield
      have e3s : EP1 X.K TB σ H env H3 envi ∧ Stay H2 H3 ∧ H3 D = some (.lst vsA) := by
        rcases hg3 with rfl | ⟨p, o, n, rfl⟩
        · exact ⟨e2, Stay.refl _, hDl⟩
        · exact ⟨e2.new n, stay_new n, by rw [upd_ne (ne_of_none hDl n)]; exact hDl⟩
      obtain ⟨e3, st3, hD3⟩ := e3s
      split at go
      · cases go
      · rename_i env4 hb
        refine ⟨wipeD envi own, env4, d, e3.rep.wipe own, fz, hb, fun σ2 br => ⟨(br.wp own hg).trans (wipe_wipe σ own), ?_⟩⟩
        · -- the test
          have ownD : ∀ {τ : L2.St} {en : DEnv}, (∀ b, OwnA en τ b → OwnA envi σ b) → ¬ OwnA en τ D := fun {τ en} h z => by
            obtain ⟨us, q⟩ := e3.base D (e3.sub D (h D z))
            rw [hD0] at q
            cases q
          have subB : ∀ b, OwnA env4 σ2 b → OwnA envi σ b := fun b z => own_wipe (br.sub b z)
          cases ht : ft env4 with
          | bad => rw [ht] at go; cases go
          | exc _ => rw [ht] at go; cases go
          | ok b env5 =>
            rw [ht] at go
            simp only [noExc, R.bind_ok] at go
            refine ⟨env4, br.rep, .inl ⟨b, env5, ht, fun b' H5 e5 hb' => ?_⟩⟩
            have hb'' : b' = b := hb'
            subst hb''
            have hD5 : H5 D = some (.lst vsA) := e5.ext D _ hD3 (ownD subB) fun _ z => by cases z
            cases b' with
            | false =>
              rw [if_neg Bool.false_ne_true] at go
              dsimp only
              rw [if_neg Bool.false_ne_true]
              have e6 := EP1.unblock e3.rep br hg no2 e5
              refine ⟨unwipe envi env5 own, acc, vsA, hlt, e3.trans e6, st2.trans (st3.trans e6.stay), noOwn_unwipe ?_ no2, hD5, FzAll.stay (st3.trans e6.stay) fa, go⟩
              have := e6.rep.len
              rw [unwipe_length] at this
              rw [this, e3.rep.len]
            | true =>
              rw [if_pos rfl] at go
              dsimp only
              rw [if_pos rfl]
              revert go
              cases hq : fe env5 with
              | bad => intro go; cases go
              | exc _ => intro go; cases go
              | ok pv env6 =>
                simp only [R.bind_ok]
                cases hz : frz pv env6 with
                | none => intro go; cases go
                | some w =>
                  obtain ⟨z, env7⟩ := w
                  intro go
                  simp only [noExc, R.bind_ok] at go
                  refine ⟨env5, e5.rep, .inl ⟨pv, env6, hq, fun v H6 e6 r6 => frz_gf e6 r6 hz fun H7 e7 st7 fz7 => ?_⟩⟩
                  have e57 : EP1 X.K TB σ2 H3 env4 H7 env7 := e5.trans e7
                  have hD7 : H7 D = some (.lst vsA) := e57.ext D _ hD3 (ownD subB) fun _ z => by cases z
                  split at go
                  case isFalse => cases go
                  rename_i hz2
                  have e8 := EP1.unblock e3.rep br hg no2 e57
                  have e9 := e3.trans e8
                  have fa7 : FzAll X.K H7 vsA acc := FzAll.stay (st3.trans e8.stay) fa
                  refine ⟨vsA, hD7, by rw [fa7.length]; exact hz2, unwipe envi env7 own, acc ++ [z], vsA ++ [v], hlt, ?_⟩
                  -- the new item laid
                  have ne : ∀ b u, H7 b = some u → (∀ ys, u ≠ .lst ys) → b ≠ D := fun b u q w z => by
                    rw [z, hD7] at q
                    exact w vsA (Option.some.inj q).symm
                  have st8 : Stay H7 (upd H7 D (.lst (vsA ++ [v]))) := ⟨fun b ys q => by rw [upd_ne (ne b _ q fun _ z => by cases z)]; exact q, fun b ob u q => by rw [upd_ne (ne b _ q fun _ z => by cases z)]; exact q⟩
                  have hno : ¬ OwnA (unwipe envi env7 own) σ D := fun z => by
                    obtain ⟨us, q⟩ := e9.base D (e9.sub D z)
                    rw [hD0] at q
                    cases q
                  refine ⟨⟨fun b u q hn t => ?_, ⟨e9.rep.len, fun j w q => ?_, e9.rep.inj, tabs_upd e9.rep.tabs (.inr ⟨_, hD7⟩)⟩, e9.sub, e9.asg, fun b q => ?_, e9.base⟩, st2.trans (st3.trans (e8.stay.trans st8)), noOwn_unwipe ?_ no2, upd_same, (FzAll.stay st8 fa7).append (.cons (Fz.stay st8 fz7) .nil), go⟩
                  · rw [upd_ne (fun z => by rw [z, hD0] at q; cases q)]
                    exact e9.ext b u q hn t
                  · obtain ⟨y, hy, rv⟩ := e9.rep.at_ j w q
                    refine ⟨y, hy, ?_⟩
                    cases w with
                    | d y' => exact Fz.stay st8 rv
                    | own us =>
                      obtain ⟨b, ws, rfl, h1, al'⟩ := rv
                      exact ⟨b, ws, rfl, by rw [upd_ne (fun z => hno (by rw [← z]; exact ⟨j, us, q, hy⟩))]; exact h1, FzAll.stay st8 al'⟩
                  · by_cases hb : b = D
                    · rw [hb, upd_same] at q; cases q
                    · rw [upd_ne hb] at q; exact e9.gone b q
                  · have := e8.rep.len
                    rw [unwipe_length] at this
                    rw [this, e3.rep.len]
end
end Wd
/-! Wd 12: comprehensions as expressions; statements. -/
namespace Wd
open PySem PySem.Spec PyProof.Rows L2
section
variable {X : Cx} {TB : TL} {W : WEx}
/-- the parts of a comprehension, in its block -/
structure LcOk (X : Cx) (TB : TL) (W : WEx) (elt tg iter : Expr) (ifs : List Expr) (scope : Scope) (own : List (Str × Nat)) (g : Tg) (fi : DEnv → R (List PyData)) (ft : DEnv → R Bool) (fe : DEnv → R PV) : Prop where
  ok : BlkOk X.N X.env.scope scope own
  tgo : ∀ i ∈ tgs g, i ∈ own.map (·.2)
  it : SoI X TB W tg iter fi
  hg : ∀ (s : Shared) (H : Hp) (C : Addr) (cl : List (Str × Addr)) (fp : List Addr), SoG (X.blk s H scope (compEnvC scope cl C X.env) fp) TB tg g
  ht : ∀ (s : Shared) (H : Hp) (C : Addr) (cl : List (Str × Addr)) (fp : List Addr), SoTs (X.blk s H scope (compEnvC scope cl C X.env) fp) TB noW ifs ft
  he : ∀ (s : Shared) (H : Hp) (C : Addr) (cl : List (Str × Addr)) (fp : List Addr), SoE (X.blk s H scope (compEnvC scope cl C X.env) fp) TB noW elt fe
  fs : ∀ x, foldedSetIterable iter X.env x = pure x
abbrev lcF (g : Tg) (own : List Nat) (fi : DEnv → R (List PyData)) (ft : DEnv → R Bool) (fe : DEnv → R PV) : DEnv → R PV := fun e => (fi e).bind fun xs e1 => if noOwn e1 own then (lcGo g own ft (fun e2 => (fe e2).bind fun p e3 => match frz p e3 with
      | some (x, e4) => .ok x e4
      | none => .bad) xs [] e1).bind fun ys e2 => .ok (PV.val (.own ys)) e2 else .bad
theorem so_lc {elt tg iter : Expr} {ifs : List Expr} {scope : Scope} {own : List (Str × Nat)} {pos : Pos} {g : Tg} {fi : DEnv → R (List PyData)} {ft : DEnv → R Bool} {fe : DEnv → R PV} (hc : X.calm = true) (hN : X.N.Nodup) (L : LcOk X TB W elt tg iter ifs scope own g fi ft fe) :
    SoE X TB W (.ListComp elt [⟨tg, iter, ifs, 0⟩] scope pos) (lcF g (own.map (·.2)) fi ft fe) := by
  obtain ⟨wi, pi, si⟩ := L.it
  exact ⟨_, pe_lc hc hN pi L.ok (g := canG X.K TB g) (tt := can X.K TB noW ft RT) (fun s H C cl fp => (L.hg s H C cl fp).can) (fun s H C cl fp => (L.ht s H C cl fp).can) (fun s H C cl fp => pe_gf (te := can X.K TB noW fe (RE X.K)) (L.he s H C cl fp).can) L.fs, lc_snd L.tgo si⟩
theorem lcF_val {g : Tg} {own : List Nat} {fi : DEnv → R (List PyData)} {ft : DEnv → R Bool} {fe : DEnv → R PV} {e e' : DEnv} {n : Nat} (h : lcF g own fi ft fe e = .ok (.slot n) e') : False := by
  unfold lcF at h
  cases hi : fi e with
  | bad => rw [hi] at h; cases h
  | exc _ => rw [hi] at h; cases h
  | ok xs e1 =>
    rw [hi] at h
    simp only [R.bind_ok] at h
    split at h
    · revert h
      cases lcGo g own ft _ xs [] e1 with
      | bad => intro h; cases h
      | exc _ => intro h; cases h
      | ok ys e2 => intro h; cases h
    · cases h
/-! ### statements -/
/-- in a def's body: H0 the heap at its entry, M the list that it may change -/
structure SI (K : PySem.W.Frag) (TB : TL) (H0 : Hp) (M : Option Addr) (σ : L2.St) (H : Hp) (env : DEnv) : Prop where
  rep : RepE K TB H σ env
  ext : Ext (fun b => M = some b) H0 H
  gone : ∀ b, H b = none → H0 b = none
  fresh : ∀ b, OwnA env σ b → H0 b = none ∨ M = some b
  m : ∀ a, M = some a → σ[0]? = some (some (V.ref a))
def RetV (K : PySem.W.Frag) (H0 H' : Hp) (x : V) : DV → Prop
  | .d y => Fz K H' x y
  | .own ys => ∃ a ws, x = .ref a ∧ H' a = some (.lst ws) ∧ FzAll K H' ws ys ∧ H0 a = none
/-- what is wanted behind a statement, by the interpreter's answer -/
def KS (K : PySem.W.Frag) (TB : TL) (W : WEx) (H0 : Hp) (M : Option Addr) (H : Hp) (D : Ends) : R Fl → Prop
  | .ok .nx env => ∀ σ' H', Stay H H' → SI K TB H0 M σ' H' env → D.nx σ' H'
  | .ok .brk env => ∀ σ' H', Stay H H' → SI K TB H0 M σ' H' env → D.bk σ' H'
  | .ok .ct env => ∀ σ' H', Stay H H' → SI K TB H0 M σ' H' env → D.ct σ' H'
  | .ok (.ret v) env => ∀ x σ' H', SI K TB H0 M σ' H' env → RetV K H0 H' x v → D.rt x H'
  | .exc k => ∀ d H', Ext (fun b => M = some b) H0 H' → LamX.Tabs TB H' → W k d H'
  | .bad => False
def SndS (K : PySem.W.Frag) (TB : TL) (W : WEx) (H0 : Hp) (M : Option Addr) (t : TS) (f : DEnv → R Fl) : Prop := ∀ (D : Ends) (σ : L2.St) (H : Hp) (env : DEnv), SI K TB H0 M σ H env → KS K TB W H0 M H D (f env) → t D σ H
theorem KS.mono {K : PySem.W.Frag} {TB : TL} {W : WEx} {H0 : Hp} {M : Option Addr} {H H1 : Hp} {D : Ends} (st : Stay H H1) : ∀ {r : R Fl}, KS K TB W H0 M H D r → KS K TB W H0 M H1 D r
  | .ok .nx env, k => fun σ' H' s i => k σ' H' (st.trans s) i
  | .ok .brk env, k => fun σ' H' s i => k σ' H' (st.trans s) i
  | .ok .ct env, k => fun σ' H' s i => k σ' H' (st.trans s) i
  | .ok (.ret v) env, k => k
  | .exc n, k => k
  | .bad, k => k
section
variable {K : PySem.W.Frag} {H0 : Hp} {M : Option Addr}
theorem SI.step {σ : L2.St} {H H' : Hp} {env env' : DEnv} (i : SI K TB H0 M σ H env) (e : EP1 K TB σ H env H' env') : SI K TB H0 M σ H' env' :=
  ⟨e.rep, i.ext.trans e.ext fun c o q z => (i.fresh c z).elim (fun n => by rw [n] at q; cases q) id, fun b q => i.gone b (e.gone b q), fun b z => i.fresh b (e.sub b z), i.m⟩
theorem SI.xc {σ : L2.St} {H H' : Hp} {env : DEnv} (i : SI K TB H0 M σ H env) (e : Ext (OwnA env σ) H H') : Ext (fun b => M = some b) H0 H' := i.ext.trans e fun c o q z => (i.fresh c z).elim (fun n => by rw [n] at q; cases q) id
/-- an expression within a statement -/
theorem use_snd {β α : Type} {t : L2.St → Hp → (β → Hp → Prop) → Prop} {f : DEnv → R α} {Rl : Hp → Hp → L2.St → DEnv → β → α → Prop} (s : Snd K TB W t f Rl) {g : α → DEnv → R Fl} {σ : L2.St} {H : Hp} {env : DEnv} {D : Ends} {Q : β → Hp → Prop} (i : SI K TB H0 M σ H env) (k : KS K TB W H0 M H D ((f env).bind g))
    (h : ∀ a env1 b H1, f env = .ok a env1 → EP1 K TB σ H env H1 env1 → Rl H H1 σ env1 b a → SI K TB H0 M σ H1 env1 → KS K TB W H0 M H1 D (g a env1) → Q b H1) : t σ H Q := by
  obtain ⟨s1, s2⟩ := s σ H env i.rep
  cases hf : f env with
  | bad => rw [hf] at k; exact k.elim
  | exc n =>
    rw [hf] at k
    exact s2 n hf (fun d H' x y => k d H' (i.xc x) y) Q
  | ok a env1 =>
    rw [hf] at k
    exact s1 a env1 hf Q fun b H1 e r => h a env1 b H1 hf e r (i.step e) (k.mono e.stay)
/-- a name gets a value -/
theorem RepE.setv {H : Hp} {σ : L2.St} {env : DEnv} (r : RepE K TB H σ env) {i : Nat} {x : V} {v : DV} (hi : i < env.length) (h : RV K H x v) (hn : ∀ a ys, x = .ref a → v = .own ys → ¬ OwnA env σ a) : RepE K TB H (σ.set i (some x)) (env.set i (some v)) := by
  refine ⟨by rw [List.length_set, List.length_set]; exact r.len, fun j w q => ?_, fun j k xs ys a q1 q2 s1 s2 => ?_, r.tabs⟩
  · rcases set_some_get q with ⟨rfl, e⟩ | ⟨hj, e⟩
    · cases e
      exact ⟨x, List.getElem?_set_self (by rw [← r.len]; exact hi), h⟩
    · obtain ⟨y, hy, rv⟩ := r.at_ j w e
      exact ⟨y, by rw [List.getElem?_set_ne (Ne.symm hj)]; exact hy, rv⟩
  · rcases set_some_get q1 with ⟨rfl, e1⟩ | ⟨hj, e1⟩
    · rcases set_some_get q2 with ⟨rfl, e2⟩ | ⟨hk, e2⟩
      · rfl
      · rw [List.getElem?_set_ne (Ne.symm hk)] at s2
        rcases set_some_get s1 with ⟨_, z⟩ | ⟨z, _⟩
        · cases z
          exact (hn a xs rfl (Option.some.inj e1) ⟨k, ys, e2, s2⟩).elim
        · exact (z rfl).elim
    · rw [List.getElem?_set_ne (Ne.symm hj)] at s1
      rcases set_some_get q2 with ⟨rfl, e2⟩ | ⟨hk, e2⟩
      · rcases set_some_get s2 with ⟨_, z⟩ | ⟨z, _⟩
        · cases z
          exact (hn a ys rfl (Option.some.inj e2) ⟨j, xs, e1, s1⟩).elim
        · exact (z rfl).elim
      · rw [List.getElem?_set_ne (Ne.symm hk)] at s2
        exact r.inj j k xs ys a e1 e2 s1 s2
theorem SI.setv {H : Hp} {σ : L2.St} {env : DEnv} (s : SI K TB H0 M σ H env) {i : Nat} {x : V} {v : DV} (hi : i < env.length) (hm : i ≠ 0 ∨ M = none) (h : RetV K H0 H x v) (hn : ∀ a ys, x = .ref a → v = .own ys → ¬ OwnA env σ a) : SI K TB H0 M (σ.set i (some x)) H (env.set i (some v)) := by
  have rv : RV K H x v := by
    cases v with
    | d y => exact h
    | own ys =>
      obtain ⟨a, ws, e, h1, al, _⟩ := h
      exact ⟨a, ws, e, h1, al⟩
  refine ⟨s.rep.setv hi rv hn, s.ext, s.gone, fun b z => ?_, fun a e => ?_⟩
  · obtain ⟨j, xs, q1, q2⟩ := z
    rcases set_some_get q1 with ⟨rfl, e⟩ | ⟨hj, e⟩
    · cases e
      obtain ⟨a, ws, rfl, _, _, n⟩ := h
      rcases set_some_get q2 with ⟨_, z⟩ | ⟨z, _⟩
      · cases z
        exact .inl n
      · exact (z rfl).elim
    · rw [List.getElem?_set_ne (Ne.symm hj)] at q2
      exact s.fresh b ⟨j, xs, e, q2⟩
  · rcases hm with h0 | h0
    · rw [List.getElem?_set_ne h0]
      exact s.m a e
    · rw [h0] at e
      cases e
/-- a value just made, for a name -/
theorem pr_ret {σ : L2.St} {H H1 : Hp} {env env1 : DEnv} {x : V} {v : DV} (i : SI K TB H0 M σ H env) (e : EP1 K TB σ H env H1 env1) (h : PR K H H1 σ env1 x (.val v)) : RetV K H0 H1 x v ∧ ∀ a ys, x = .ref a → v = .own ys → ¬ OwnA env1 σ a := by
  cases v with
  | d y => exact ⟨h, fun _ _ _ z => by cases z⟩
  | own ys =>
    obtain ⟨a, ws, rfl, h1, al, n⟩ := h
    refine ⟨⟨a, ws, rfl, h1, al, i.gone a n⟩, fun b zs q _ z => ?_⟩
    cases q
    obtain ⟨us, q⟩ := e.base a (e.sub a z)
    rw [n] at q
    cases q
end
def SoS (X : Cx) (TB : TL) (W : WEx) (H0 : Hp) (M : Option Addr) (st : Stmt) (f : DEnv → R Fl) : Prop := ∃ t, PS X st t ∧ SndS X.K TB W H0 M t f
def SoB (X : Cx) (TB : TL) (W : WEx) (H0 : Hp) (M : Option Addr) (st : List Stmt) (f : DEnv → R Fl) : Prop := ∃ t, PSs X st t ∧ SndS X.K TB W H0 M t f
section
variable {H0 : Hp} {M : Option Addr} {st : Stmt} {sts : List Stmt} {f g : DEnv → R Fl} {fe : DEnv → R PV} {e : Expr} {pos : Pos}
theorem so_bnil : SoB X TB W H0 M [] (fun e => .ok .nx e) := ⟨_, pss_nil, fun D σ H env i k => k σ H (Stay.refl _) i⟩
theorem so_bcons (h1 : SoS X TB W H0 M st f) (h2 : SoB X TB W H0 M sts g) : SoB X TB W H0 M (st :: sts) (fun e => (f e).bind fun fl e1 => match fl with
    | .nx => g e1
    | .ret v => .ok (.ret v) e1
    | .brk => .ok .brk e1
    | .ct => .ok .ct e1) := by
  obtain ⟨t, p, s⟩ := h1
  obtain ⟨u, q, r⟩ := h2
  refine ⟨_, pss_cons p q, fun D σ H env i k => s _ σ H env i ?_⟩
  dsimp only at k
  cases hf : f env with
  | bad => rw [hf] at k; exact k
  | exc n => rw [hf] at k; exact k
  | ok fl env1 =>
    rw [hf] at k
    cases fl with
    | nx => exact fun σ' H' st i' => r D σ' H' env1 i' (KS.mono (r := g env1) st k)
    | ret v => exact k
    | brk => exact k
    | ct => exact k
theorem so_pass : SoS X TB W H0 M (.Pass pos) (fun e => .ok .nx e) := ⟨_, ps_pass, fun D σ H env i k => k σ H (Stay.refl _) i⟩
theorem so_brk : SoS X TB W H0 M (.Break pos) (fun e => .ok .brk e) := ⟨_, ps_break, fun D σ H env i k => k σ H (Stay.refl _) i⟩
theorem so_ct : SoS X TB W H0 M (.Continue pos) (fun e => .ok .ct e) := ⟨_, ps_continue, fun D σ H env i k => k σ H (Stay.refl _) i⟩
theorem so_retn : SoS X TB W H0 M (.Return none pos) (fun e => .ok (.ret (.d .none)) e) := ⟨_, ps_retN, fun D σ H env i k => k .non σ H i .non⟩
theorem so_expr (hs : swapsWith e none pos.line X.env = pure false) (he : SoE X TB W e fe) : SoS X TB W H0 M (.Expr e pos) (fun e => (fe e).bind fun _ e1 => .ok .nx e1) := by
  obtain ⟨t, p, s⟩ := he
  exact ⟨_, ps_expr p hs, fun D σ H env i k => use_snd s i k fun a env1 b H1 hfe e1 r i1 k1 => k1 σ H1 (Stay.refl _) i1⟩
theorem so_ret (he : SoE X TB W e fe) : SoS X TB W H0 M (.Return (some e) pos) (fun e => (fe e).bind fun p e1 => match tak p e1 with
    | some (v, e2) => .ok (.ret v) e2
    | none => .bad) := by
  obtain ⟨t, p, s⟩ := he
  refine ⟨_, ps_ret (pe_gf p), fun D σ H env i k => use_snd s i k fun a env1 b H1 hfe e1 r i1 k1 => ?_⟩
  cases hq : tak a env1 with
  | none => rw [hq] at k1; exact k1.elim
  | some w =>
    obtain ⟨v, env2⟩ := w
    rw [hq] at k1
    exact tak_gf e1 r hq fun H2 e2 _ pr => k1 b σ H2 (i.step e2) (pr_ret i e2 pr).1
theorem so_if {c : Expr} {a b : List Stmt} {fc : DEnv → R Bool} (hc : SoT X TB W c fc) (ha : SoB X TB W H0 M a f) (hb : SoB X TB W H0 M b g) : SoS X TB W H0 M (.If c a b pos) (fun e => (fc e).bind fun t e1 => if t then f e1 else g e1) := by
  obtain ⟨tc, pc, sc⟩ := hc
  obtain ⟨ta, pa, sa⟩ := ha
  obtain ⟨tb, pb, sb⟩ := hb
  refine ⟨_, ps_if pc pa pb, fun D σ H env i k => ?_⟩
  show tc σ H fun b H1 => if b = true then ta D σ H1 else tb D σ H1
  refine use_snd sc i k fun v env1 w H1 hfe e1 r i1 k1 => ?_
  cases r
  cases v with
  | true => exact sa D σ H1 env1 i1 k1
  | false => exact sb D σ H1 env1 i1 k1
/-- x = e -/
theorem so_set {j : Nat} {x : Str} {px : Pos} (hN : X.N.Nodup) (hj : X.N[j]? = some x) (hx : L2.Loc X.env.scope x) (hf : X.fn x = true ∨ X.env.scope.names.lookup x = some .local) (hs : swapsWith e (some (.Name x px)) pos.line X.env = pure false) (hm : j ≠ 0 ∨ M = none) (he : SoE X TB W e fe) :
    SoS X TB W H0 M (.Assign [.Name x px] e pos) (fun e => (fe e).bind fun p e1 => match tak p e1 with
    | some (v, e2) => if j < e2.length then .ok .nx (e2.set j (some v)) else .bad
    | none => .bad) := by
  obtain ⟨t, p, s⟩ := he
  refine ⟨_, ps_set hN hj hx (pe_gf p) hs hf, fun D σ H env i k => ?_⟩
  show t σ H fun v H1 => GF H1 fun H2 => D.nx (σ.set j (some v)) H2
  refine use_snd s i k fun a env1 b H1 hfe e1 r i1 k1 => ?_
  cases hq : tak a env1 with
  | none => rw [hq] at k1; exact k1.elim
  | some w =>
    obtain ⟨v, env2⟩ := w
    rw [hq] at k1
    dsimp only at k1
    split at k1
    · rename_i hlt
      exact tak_gf e1 r hq fun H2 e2 st pr => k1 _ H2 st ((i.step e2).setv hlt hm (pr_ret i e2 pr).1 (pr_ret i e2 pr).2)
    · exact k1.elim
theorem so_setlc {j : Nat} {x : Str} {px spos : Pos} {elt tg iter : Expr} {ifs : List Expr} {scope : Scope} {own : List (Str × Nat)} {g : Tg} {fi : DEnv → R (List PyData)} {ft : DEnv → R Bool} {fe : DEnv → R PV} (hc : X.calm = true) (hN : X.N.Nodup) (hj : X.N[j]? = some x) (hx : X.env.scope.names.lookup x = some .local)
    (hs : swapsWith (.ListComp elt [⟨tg, iter, ifs, 0⟩] scope pos) (some (.Name x px)) spos.line X.env = pure true) (hm : j ≠ 0 ∨ M = none) (L : LcOk X TB W elt tg iter ifs scope own g fi ft fe) :
    SoS X TB W H0 M (.Assign [.Name x px] (.ListComp elt [⟨tg, iter, ifs, 0⟩] scope pos) spos) (fun e => (lcF g (own.map (·.2)) fi ft fe e).bind fun p e1 => match tak p e1 with
    | some (v, e2) => if j < e2.length then .ok .nx (e2.set j (some v)) else .bad
    | none => .bad) := by
  obtain ⟨wi, pi, si⟩ := L.it
  have s := lc_snd (ft := ft) (fe := fe) L.tgo si
  refine ⟨_, ps_setLc hc hN hj hx hs pi L.ok (g := canG X.K TB g) (tt := can X.K TB noW ft RT) (fun s H C cl fp => (L.hg s H C cl fp).can) (fun s H C cl fp => (L.ht s H C cl fp).can) (fun s H C cl fp => pe_gf (te := can X.K TB noW fe (RE X.K)) (L.he s H C cl fp).can) L.fs, fun D σ H env i k => ?_⟩
  show tLc wi _ _ _ _ σ H fun v H1 => D.nx (σ.set j (some v)) H1
  refine use_snd s i k fun a env1 b H1 hfe e1 r i1 k1 => ?_
  cases a with
  | slot n => exact (lcF_val hfe).elim
  | val v =>
    simp only [tak] at k1
    split at k1
    · rename_i hlt
      exact k1 _ H1 (Stay.refl _) (i1.setv hlt hm (pr_ret i e1 r).1 (pr_ret i e1 r).2)
    · exact k1.elim
end
end
end Wd
/-! Wd 13: statements, further. -/
namespace Wd
open PySem PySem.Spec PyProof.Rows L2
section
variable {X : Cx} {TB : TL} {W : WEx} {H0 : Hp} {M : Option Addr} {f g : DEnv → R Fl} {fe : DEnv → R PV} {e : Expr} {pos : Pos} {cr : Nat → Addr}
/-- raise K('..') -/
theorem so_rais {t : L2.St → Hp → XK → Prop} {k : Nat} (hc : X.calm = true) (tk : Takes X (WW cr W)) (hm : PMk X e t) (ht : ∀ (σ : L2.St) (H : Hp) (Q : XK), Q (.ref (cr k)) none H → t σ H Q) : SoS X TB W H0 M (.Raise (some e) none pos) (fun _ => .exc k) :=
  ⟨_, ps_raise hc tk hm, fun D σ H env i kk => ht σ H _ ⟨k, rfl, kk none H i.ext i.rep.tabs⟩⟩
/-- a, .. = e -/
theorem so_unp {tg : Expr} {gT : Tg} (hs : swapsWithSole [tg] e pos.line X.env = pure false) (hw : swappedStores [tg] e X.env = pure none) (h1 : (assignEach [tg] X.env).map (·.2) = [assign tg X.env]) (hm : 0 ∉ tgs gT ∨ M = none) (hg : SoG X TB tg gT) (he : SoE X TB W e fe) :
    SoS X TB W H0 M (.Assign [tg] e pos) (fun e => (fe e).bind fun p e1 => match frz p e1 with
    | some (x, e2) => (match bindT gT x e2 with
      | some e3 => .ok .nx e3
      | none => .bad)
    | none => .bad) := by
  obtain ⟨t, p, s⟩ := he
  obtain ⟨gg, pg, sg⟩ := hg
  refine ⟨_, ps_asg (pe_gf p) pg hs hw h1, fun D σ H env i k => ?_⟩
  show t σ H fun v H1 => GF H1 fun H2 => gg v σ H2 D.nx
  refine use_snd s i k fun a env1 b H1 hfe e1 r i1 k1 => ?_
  cases hq : frz a env1 with
  | none => rw [hq] at k1; exact k1.elim
  | some w =>
    obtain ⟨v, env2⟩ := w
    rw [hq] at k1
    dsimp only at k1
    cases hb : bindT gT v env2 with
    | none => rw [hb] at k1; exact k1.elim
    | some env3 =>
      rw [hb] at k1
      exact frz_gf e1 r hq fun H2 e2 st fz => sg σ H2 env2 env3 b v e2.rep fz hb _ fun σ' br => k1 σ' H2 st (by
        have i2 := i.step e2
        refine ⟨br.rep, i2.ext, i2.gone, fun c z => i2.fresh c (br.sub c z), fun a e => ?_⟩
        rcases hm with h0 | h0
        · rw [(br.ne 0 h0).1]
          exact i2.m a e
        · rw [h0] at e
          cases e)
/-! ### a list of a name changes -/
theorem SI.putN {K : PySem.W.Frag} {σ : L2.St} {H : Hp} {env : DEnv} {i : Nat} {a : Addr} {ys zs : List PyData} {vs ws : List V} (s : SI K TB H0 M σ H env) (hi : env[i]? = some (some (DV.own ys))) (hs : σ[i]? = some (some (V.ref a))) (h1 : H a = some (.lst vs)) (al : FzAll K H ws zs) :
    SI K TB H0 M σ (upd H a (.lst ws)) (env.set i (some (DV.own zs))) ∧ Stay H (upd H a (.lst ws)) := by
  have ne : ∀ b u, H b = some u → (∀ ys, u ≠ .lst ys) → b ≠ a := fun b u q w z => by
    rw [z, h1] at q
    exact w vs (Option.some.inj q).symm
  have st : Stay H (upd H a (.lst ws)) := ⟨fun b ys q => by rw [upd_ne (ne b _ q fun _ z => by cases z)]; exact q, fun b ob u q => by rw [upd_ne (ne b _ q fun _ z => by cases z)]; exact q⟩
  obtain ⟨e, _⟩ := (EP1.refl s.rep).putN (H2 := upd H a (.lst ws)) hi hs (fun b o q n t => by rw [upd_ne n]; exact q) (fun b q => by
    by_cases hb : b = a
    · rw [hb, upd_same] at q; cases q
    · rw [upd_ne hb] at q; exact q) (tabs_upd s.rep.tabs (.inr ⟨_, h1⟩)) upd_same (FzAll.stay st al)
  exact ⟨s.step e, st⟩
theorem so_app {j : Nat} {x : Str} {px pa pc : Pos} (hN : X.N[j]? = some x) (hv : Vis X.env.scope x) (hd : (x == ("__debug__" : Str)) = false) (hcd : (x == ("__classdict__" : Str)) = false) (hst : starEach [e] X.env = [(false, eval e X.env)])
    (ht : PE X (.Call (.Attribute (.Name x px) "append" pa) [e] [] pc) (tBM X.K "list" rAppend (tVar j) (tCons (tGF (can X.K TB W fe (RE X.K))) tNil))) : SoS X TB W H0 M (.Expr (.Call (.Attribute (.Name x px) "append" pa) [e] [] pc) pos) (fun e => match e[j]? with
    | some (some (.own _)) => (fe e).bind fun p e1 => (match frz p e1 with
      | some (y, e2) => (match e2[j]? with
        | some (some (.own xs)) => if xs.length < sizeLine then .ok .nx (e2.set j (some (.own (xs ++ [y])))) else .bad
        | _ => .bad)
      | none => .bad)
    | _ => .bad) := by
  refine ⟨_, ps_expr ht rfl, fun D σ H env i k => ?_⟩
  dsimp only at k
  split at k
  case h_2 => exact k.elim
  rename_i ys0 h0
  obtain ⟨y0, hs, a, vs0, rfl, h1, _⟩ := i.rep.at_ j _ h0
  refine ⟨_, hs, .inl ⟨rfl, _, .inl (.inl h1)⟩, ?_⟩
  -- the item
  have s : Snd X.K TB W (can X.K TB W fe (RE X.K)) fe (RE X.K) := fun σ H env re => ⟨fun a env' q Q k => ⟨env, re, .inl ⟨a, env', q, k⟩⟩, fun k q w Q => ⟨env, re, .inr ⟨k, q, w⟩⟩⟩
  refine use_snd s i k fun p env1 b H1 hfe e1 r i1 k1 => ?_
  cases hq : frz p env1 with
  | none => rw [hq] at k1; exact k1.elim
  | some w =>
    obtain ⟨v, env2⟩ := w
    rw [hq] at k1
    dsimp only at k1
    split at k1
    case h_2 => exact k1.elim
    rename_i xs h2
    split at k1
    case isFalse => exact k1.elim
    rename_i hz
    refine frz_gf e1 r hq fun H2 e2 st2 fz => ?_
    have i2 := i.step e2
    obtain ⟨y2, hs2, a2, vs2, rfl, h3, al⟩ := i2.rep.at_ j _ h2
    rw [hs] at hs2
    cases hs2
    exact ⟨a, vs2, b, rfl, rfl, h3, by rw [al.length]; exact hz, k1 _ _ (st2.trans (i2.putN h2 hs h3 (al.append (.cons fz .nil))).2) (i2.putN h2 hs h3 (al.append (.cons fz .nil))).1⟩
theorem so_ext {j : Nat} {x : Str} {px pa pc : Pos} (hN : X.N[j]? = some x) (hv : Vis X.env.scope x) (hd : (x == ("__debug__" : Str)) = false) (hcd : (x == ("__classdict__" : Str)) = false) (hst : starEach [e] X.env = [(false, eval e X.env)])
    (ht : PE X (.Call (.Attribute (.Name x px) "extend" pa) [e] [] pc) (tBM X.K "list" rExtend (tVar j) (tCons (can X.K TB W fe (RE X.K)) tNil))) : SoS X TB W H0 M (.Expr (.Call (.Attribute (.Name x px) "extend" pa) [e] [] pc) pos) (fun e => match e[j]? with
    | some (some (.own _)) => (fe e).bind fun p e1 => (match p with
      | .val (.own ys) => (match e1[j]? with
        | some (some (.own xs)) => if xs.length + ys.length ≤ sizeLine then .ok .nx (e1.set j (some (.own (xs ++ ys)))) else .bad
        | _ => .bad)
      | _ => .bad)
    | _ => .bad) := by
  refine ⟨_, ps_expr ht rfl, fun D σ H env i k => ?_⟩
  dsimp only at k
  split at k
  case h_2 => exact k.elim
  rename_i ys0 h0
  obtain ⟨y0, hs, a, vs0, rfl, h1, _⟩ := i.rep.at_ j _ h0
  refine ⟨_, hs, .inl ⟨rfl, _, .inl (.inl h1)⟩, ?_⟩
  have s : Snd X.K TB W (can X.K TB W fe (RE X.K)) fe (RE X.K) := fun σ H env re => ⟨fun a env' q Q k => ⟨env, re, .inl ⟨a, env', q, k⟩⟩, fun k q w Q => ⟨env, re, .inr ⟨k, q, w⟩⟩⟩
  refine use_snd s i k fun p env1 b H1 hfe e1 r i1 k1 => ?_
  split at k1
  case h_2 => exact k1.elim
  rename_i ys
  split at k1
  case h_2 => exact k1.elim
  rename_i xs h2
  split at k1
  case isFalse => exact k1.elim
  rename_i hz
  obtain ⟨y2, hs2, a2, vs2, rfl, h3, al⟩ := i1.rep.at_ j _ h2
  rw [hs] at hs2
  cases hs2
  obtain ⟨c, ws, rfl, h4, bl, _⟩ := r
  exact ⟨a, c, vs2, ws, rfl, rfl, h3, h4, by rw [al.length, bl.length]; exact hz, k1 _ _ (i1.putN h2 hs h3 (al.append bl)).2 (i1.putN h2 hs h3 (al.append bl)).1⟩
/-- x[i] = e -/
theorem so_seti {j : Nat} {x : Str} {px psub : Pos} {ix : Expr} {fi : DEnv → R PV} (hN : X.N[j]? = some x) (hv : Vis X.env.scope x) (hd : (x == ("__debug__" : Str)) = false) (hcd : (x == ("__classdict__" : Str)) = false)
    (ha : ∀ v, assign (.Subscript (.Name x px) ix psub) X.env v = (do
      let ov ← holding [v] (eval (.Name x px) X.env)
      let iv ← holding [v, ov] (eval ix X.env)
      standAt psub
      holding [v, ov, iv] (setItem ov iv v)
      release [v, ov, iv] []))
    (hs : swapsWithSole [.Subscript (.Name x px) ix psub] e pos.line X.env = pure false) (hw : swappedStores [.Subscript (.Name x px) ix psub] e X.env = pure none) (h1 : (assignEach [.Subscript (.Name x px) ix psub] X.env).map (·.2) = [assign (.Subscript (.Name x px) ix psub) X.env])
    (hi : SoE X TB W ix fi) (he : SoE X TB W e fe) : SoS X TB W H0 M (.Assign [.Subscript (.Name x px) ix psub] e pos) (fun e => (fe e).bind fun p e1 => match frz p e1 with
    | some (y, e2) => (match e2[j]? with
      | some (some (.own _)) => (fi e2).bind fun q e3 => (match e3[j]?, res q e3 with
        | some (some (.own xs)), some (.int k) => (match L2.ixN xs.length k with
          | some j' => .ok .nx (e3.set j (some (.own (xs.set j' y))))
          | none => .bad)
        | _, _ => .bad)
      | _ => .bad)
    | none => .bad) := by
  obtain ⟨t, p, s⟩ := he
  obtain ⟨ti, pi, si⟩ := hi
  refine ⟨_, ps_asg (pe_gf p) (pg_sub (pe_var hN hv hd hcd) pi set_list ha) hs hw h1, fun D σ H env i k => ?_⟩
  show t σ H fun v H1 => GF H1 fun H2 => ∃ o, σ[j]? = some (some o) ∧ ti σ H2 fun iv H3 => rSetL o iv v H3 fun H4 => D.nx σ H4
  refine use_snd s i k fun a env1 b H1 hfe e1 r i1 k1 => ?_
  cases hq : frz a env1 with
  | none => rw [hq] at k1; exact k1.elim
  | some w =>
    obtain ⟨v, env2⟩ := w
    rw [hq] at k1
    dsimp only at k1
    split at k1
    case h_2 => exact k1.elim
    rename_i ys h2
    refine frz_gf e1 r hq fun H2 e2 st2 fz => ?_
    have i2 := i.step e2
    obtain ⟨y2, hs2, a2, vs2, rfl, h3, al⟩ := i2.rep.at_ j _ h2
    refine ⟨_, hs2, ?_⟩
    refine use_snd si i2 (k1.mono st2) fun q env3 iv H3 hfi e3 r3 i3 k3 => ?_
    split at k3
    case h_2 => exact k3.elim
    rename_i xs n h4 hn
    split at k3
    case h_2 => exact k3.elim
    rename_i j' hj
    cases (res_rd e3 r3 hn).int
    obtain ⟨y4, hs4, a4, vs4, rfl, h5, al4⟩ := i3.rep.at_ j _ h4
    rw [hs2] at hs4
    cases hs4
    exact ⟨a2, vs4, n, j', rfl, rfl, h5, by rw [al4.length]; exact hj, k3 _ _ (i3.putN h4 hs2 h5 (al4.set (Fz.stay e3.stay fz) j')).2 (i3.putN h4 hs2 h5 (al4.set (Fz.stay e3.stay fz) j')).1⟩
/-! ### loops -/
theorem so_for {tg it : Expr} {body : List Stmt} {gT : Tg} {fi : DEnv → R (List PyData)} (hc : X.calm = true) (hp : PassesOwn (model X.prog X.w) X.A X.env X.xe) (hs : ∀ x, foldedSetIterable it X.env x = pure x) (hm : 0 ∉ tgs gT ∨ M = none) (hg : SoG X TB tg gT) (hi : SoI X TB W tg it fi) (hb : SoB X TB W H0 M body f) :
    SoS X TB W H0 M (.For tg it body [] pos) (fun e => (fi e).bind fun xs e1 => forL gT f xs e1) := by
  obtain ⟨wi, pi, si⟩ := hi
  obtain ⟨gg, pg, sg⟩ := hg
  obtain ⟨tb, pb, sb⟩ := hb
  refine ⟨_, ps_for hp hc pi pg pb hs, fun D σ H env i k => ?_⟩
  show wi σ H fun J H1 => _
  refine use_snd si i k fun xs env1 J H1 hfe e1 itd i1 k1 => ?_
  refine ⟨fun n m σ' H' => ∃ env', m = xs.length - n ∧ n ≤ xs.length ∧ SI X.K TB H0 M σ' H' env' ∧ Stay H1 H' ∧ KS X.K TB W H0 M H' D (forL gT f (xs.drop n) env'), ⟨xs.length, env1, by omega, Nat.zero_le _, i1, Stay.refl _, by rw [List.drop_zero]; exact k1⟩, ?_⟩
  rintro n m σ' H' ⟨env', rfl, hle, i', st, k'⟩
  obtain ⟨it1, it2⟩ := itd H' st n
  by_cases hlt : n < xs.length
  case neg =>
    refine .inl ⟨it2 (List.getElem?_eq_none_iff.mpr (by omega)), ?_⟩
    rw [List.drop_eq_nil_of_le (by omega)] at k'
    exact k' σ' H' (Stay.refl _) i'
  case pos =>
    obtain ⟨d, hd⟩ : ∃ d, xs[n]? = some d := ⟨xs[n], List.getElem?_eq_getElem hlt⟩
    have hdrop : xs.drop n = d :: xs.drop (n + 1) := by
      rw [List.drop_eq_getElem_cons hlt]
      have := List.getElem?_eq_getElem hlt
      rw [hd] at this
      cases this
      rfl
    rw [hdrop] at k'
    unfold forL at k'
    obtain ⟨itg, ity⟩ := it1 d hd
    refine .inr ⟨itg, fun σ2 H2 => ∃ env2, SI X.K TB H0 M σ2 H2 env2 ∧ Stay H1 H2 ∧ KS X.K TB W H0 M H2 D (forL gT f (xs.drop (n + 1)) env2), fun σ2 H2 ⟨env2, q⟩ => ⟨xs.length - (n + 1), by omega, env2, rfl, hlt, q⟩, fun x H3 y => ?_⟩
    obtain ⟨hg3, fz⟩ := ity x H3 y
    have i3 : SI X.K TB H0 M σ' H3 env' ∧ Stay H' H3 := by
      rcases hg3 with rfl | ⟨p, o, nn, rfl⟩
      · exact ⟨i', Stay.refl _⟩
      · exact ⟨i'.step ((EP1.refl i'.rep).new nn), stay_new nn⟩
    obtain ⟨i3, st3⟩ := i3
    split at k'
    case h_1 => exact k'.elim
    rename_i env2 hbd
    refine sg σ' H3 env' env2 x d i3.rep fz hbd _ fun σ2 br => ?_
    have i4 : SI X.K TB H0 M σ2 H3 env2 := by
      refine ⟨br.rep, i3.ext, i3.gone, fun c z => i3.fresh c (br.sub c z), fun a e => ?_⟩
      rcases hm with h0 | h0
      · rw [(br.ne 0 h0).1]
        exact i3.m a e
      · rw [h0] at e
        cases e
    have k4 := k'.mono st3
    refine sb _ σ2 H3 env2 i4 ?_
    cases hf : f env2 with
    | bad => rw [hf] at k4; exact k4
    | exc n => rw [hf] at k4; exact k4
    | ok fl env3 =>
      rw [hf] at k4
      cases fl with
      | nx => exact fun σ5 H5 st5 i5 => ⟨env3, i5, st.trans (st3.trans st5), KS.mono (r := forL gT f (xs.drop (n + 1)) env3) st5 k4⟩
      | ct => exact fun σ5 H5 st5 i5 => ⟨env3, i5, st.trans (st3.trans st5), KS.mono (r := forL gT f (xs.drop (n + 1)) env3) st5 k4⟩
      | brk => exact k4
      | ret v => exact k4
theorem so_whl {c : Expr} {body : List Stmt} {fc : DEnv → R Bool} (hp : PassesOwn (model X.prog X.w) X.A X.env X.xe) (hc : SoT X TB W c fc) (hb : SoB X TB W H0 M body f) : SoS X TB W H0 M (.While c body [] pos) (fun e => whL fc f fuelW e) := by
  obtain ⟨tc, pc, sc⟩ := hc
  obtain ⟨tb, pb, sb⟩ := hb
  refine ⟨_, ps_while hp pc pb, fun D σ H env i k => ?_⟩
  refine ⟨fun m σ' H' => ∃ env', SI X.K TB H0 M σ' H' env' ∧ KS X.K TB W H0 M H' D (whL fc f m env'), ⟨fuelW, env, i, k⟩, ?_⟩
  rintro m σ' H' ⟨env', i', k'⟩
  cases m with
  | zero => exact k'.elim
  | succ m =>
    unfold whL at k'
    refine use_snd sc i' k' fun v env1 w H1 hfe e1 r i1 k1 => ?_
    cases r
    cases v with
    | false =>
      rw [if_neg Bool.false_ne_true] at k1 ⊢
      exact k1 _ _ (Stay.refl _) i1
    | true =>
      rw [if_pos rfl] at k1 ⊢
      refine ⟨fun σ2 H2 => ∃ env2, SI X.K TB H0 M σ2 H2 env2 ∧ KS X.K TB W H0 M H2 D (whL fc f m env2), fun σ2 H2 q => ⟨m, Nat.lt_succ_self m, q⟩, sb _ σ' H1 env1 i1 ?_⟩
      cases hf : f env1 with
      | bad => rw [hf] at k1; exact k1
      | exc n => rw [hf] at k1; exact k1
      | ok fl env3 =>
        rw [hf] at k1
        cases fl with
        | nx => exact fun σ5 H5 st5 i5 => ⟨env3, i5, KS.mono (r := whL fc f m env3) st5 k1⟩
        | ct => exact fun σ5 H5 st5 i5 => ⟨env3, i5, KS.mono (r := whL fc f m env3) st5 k1⟩
        | brk => exact k1
        | ret v => exact k1
end
end Wd
/-! Wd 14: several names at once. -/
namespace Wd
open PySem PySem.Spec PyProof.Rows L2
section
variable {X : Cx} {TB : TL} {W : WEx} {H0 : Hp} {M : Option Addr}
inductive PRs (K : PySem.W.Frag) (H H' : Hp) : List V → List DV → Prop
  | nil : PRs K H H' [] []
  | cons {v : V} {vs : List V} {d : DV} {ds : List DV} : RN K H H' v d → (∀ a ys, v = .ref a → d = .own ys → ∀ p ∈ vs.zip ds, ∀ zs, p = (V.ref a, DV.own zs) → False) → PRs K H H' vs ds → PRs K H H' (v :: vs) (d :: ds)
theorem PRs.length {K : PySem.W.Frag} {H H' : Hp} : ∀ {vs : List V} {ds : List DV}, PRs K H H' vs ds → vs.length = ds.length
  | _, _, .nil => rfl
  | _, _, .cons _ _ r => congrArg (· + 1) (PRs.length r)
theorem PRs.later {K : PySem.W.Frag} {H H1 : Hp} (st : Stay H1 H1) : True := trivial
theorem PRs.mem {K : PySem.W.Frag} {H H' : Hp} : ∀ {vs : List V} {ds : List DV}, PRs K H H' vs ds → ∀ p ∈ vs.zip ds, RN K H H' p.1 p.2
  | _, _, .nil, p, h => by simp at h
  | _, _, .cons h _ r, p, hp => by
    rw [List.zip_cons_cons] at hp
    rcases List.mem_cons.mp hp with rfl | hp
    · exact h
    · exact PRs.mem r p hp
theorem RN.whole {K : PySem.W.Frag} {H0 H1 H2 : Hp} (g : ∀ b, H1 b = none → H0 b = none) {v : V} {d : DV} (h : RN K H1 H2 v d) : RN K H0 H2 v d := by
  cases d with
  | d y => exact h
  | own ys =>
    obtain ⟨a, ws, e, h1, al, n⟩ := h
    exact ⟨a, ws, e, h1, al, g a n⟩
theorem PRs.whole {K : PySem.W.Frag} {H0 H1 H2 : Hp} (g : ∀ b, H1 b = none → H0 b = none) : ∀ {vs : List V} {ds : List DV}, PRs K H1 H2 vs ds → PRs K H0 H2 vs ds
  | _, _, .nil => .nil
  | _, _, .cons h n r => .cons (h.whole g) n (PRs.whole g r)
def SoV (X : Cx) (TB : TL) (W : WEx) (es : List Expr) (f : DEnv → R (List DV)) : Prop := ∃ t, PA X es t ∧ Snd X.K TB W t f (fun H H' _ _ vs ds => PRs X.K H H' vs ds)
theorem so_nilV : SoV X TB W [] (fun e => .ok [] e) := ⟨_, pa_nil, fun σ H env re => sa_val fun Q k => k [] H (EP1.refl re) .nil⟩
theorem so_consV {e : Expr} {es : List Expr} {f : DEnv → R PV} {fs : DEnv → R (List DV)} (hs : starEach (e :: es) X.env = (false, eval e X.env) :: starEach es X.env) (he : SoE X TB W e f) (hr : SoV X TB W es fs) :
    SoV X TB W (e :: es) (fun e => (f e).bind fun p e1 => match tak p e1 with
      | some (x, e2) => (fs e2).bind fun xs e3 => .ok (x :: xs) e3
      | none => .bad) := by
  obtain ⟨te, pe, se⟩ := he
  obtain ⟨tr, pr, sr⟩ := hr
  refine ⟨_, pa_cons (pe_gf pe) pr hs, fun σ H env re => ?_⟩
  show SndAt X.K TB W σ H env (fun Q => te σ H fun x H1 => GF H1 fun H2 => tr σ H2 fun xs H3 => Q (x :: xs) H3) _ _
  refine sa_bind (se σ H env re) fun x p H1 env1 e1 r1 => ?_
  cases q : tak p env1 with
  | none => exact sa_bad
  | some w =>
    obtain ⟨y, env2⟩ := w
    have go : ∀ H2, EP1 X.K TB σ H env H2 env2 → PR X.K H H2 σ env2 x (.val y) → SndAt X.K TB W σ H env (fun Q : List V → Hp → Prop => tr σ H2 fun xs H3 => Q (x :: xs) H3) ((fs env2).bind fun xs e3 => .ok (y :: xs) e3) (fun H' _ vs ds => PRs X.K H H' vs ds) := fun H2 e2 pr => by
      refine sa_bind (sr.at e2) fun xs ds H3 env3 e3 ⟨e23, r3⟩ => ?_
      have px : PR X.K H H3 σ env3 x (.val y) := pr.later e2 e23
      refine sa_val fun Q k => k _ H3 e3 (.cons ?_ (fun a ys e1' e2' p hp zs hz => ?_) (r3.whole e2.gone))
      · cases y with
        | d z => exact px
        | own zs => exact px
      · subst e1' e2'
        -- the earlier one stood when the later one was new
        have h := r3.mem p hp
        rw [hz] at h
        obtain ⟨b, ws, e, _, _, n⟩ := h
        cases e
        obtain ⟨c, us, e, h2, _, _⟩ := pr
        cases e
        rw [n] at h2
        cases h2
    refine ⟨fun a env' hq Q k => tak_gf e1 r1 q fun H2 e2 _ pr => (go H2 e2 pr).1 a env' hq Q k, fun k hq hw Q => tak_gf e1 r1 q fun H2 e2 _ pr => (go H2 e2 pr).2 k hq hw Q⟩
/-- the names in a row get the values in a row -/
def setV : List Nat → List V → L2.St → L2.St
  | i :: is, v :: vs, σ => setV is vs (σ.set i (some v))
  | _, _, σ => σ
theorem SI.setAll {K : PySem.W.Frag} {H1 : Hp} : ∀ {is : List Nat} {vs : List V} {ds : List DV} {σ : L2.St} {env env' : DEnv}, SI K TB H0 M σ H1 env → (0 ∉ is ∨ M = none) → PRs K H0 H1 vs ds → (∀ p ∈ vs.zip ds, ∀ a zs, p = (V.ref a, DV.own zs) → ¬ OwnA env σ a) → setAll is ds env = some env' → SI K TB H0 M (setV is vs σ) H1 env'
  | [], vs, [], σ, env, env', i, hm, r, hn, q => by
    cases r
    cases q
    exact i
  | [], vs, d :: ds, σ, env, env', i, hm, r, hn, q => by cases q
  | j :: is, vs, [], σ, env, env', i, hm, r, hn, q => by cases q
  | j :: is, vs, d :: ds, σ, env, env', i, hm, r, hn, q => by
    cases r with
    | cons h nn r =>
      rename_i v vs
      simp only [Wd.setAll] at q
      split at q
      case isFalse => cases q
      rename_i hlt
      have hr : RetV K H0 H1 v d := by
        cases d with
        | d y => exact h
        | own ys => exact h
      have hv : ∀ a ys, v = .ref a → d = .own ys → ¬ OwnA env σ a := fun a ys e1 e2 => hn (v, d) (by rw [List.zip_cons_cons]; exact List.mem_cons_self) a ys (by rw [e1, e2])
      have i1 := i.setv hlt (hm.imp (fun z => fun e => z (by simp [e])) id) hr hv
      show SI K TB H0 M (setV is vs (σ.set j (some v))) H1 env'
      refine SI.setAll i1 (hm.imp (fun z hz => z (List.mem_cons_of_mem _ hz)) id) r (fun p hp a zs hz ow => ?_) q
      obtain ⟨k, xs, q1, q2⟩ := ow
      rcases set_some_get q1 with ⟨rfl, e⟩ | ⟨hk, e⟩
      · rcases set_some_get q2 with ⟨_, e2⟩ | ⟨z, _⟩
        · cases e2
          exact nn a xs rfl (Option.some.inj e) p hp zs hz
        · exact (z rfl).elim
      · rw [List.getElem?_set_ne (Ne.symm hk)] at q2
        exact hn p (by rw [List.zip_cons_cons]; exact List.mem_cons_of_mem _ hp) a zs hz ⟨k, xs, e, q2⟩
abbrev parF (is : List Nat) (fs : DEnv → R (List DV)) : DEnv → R Fl := fun e => (fs e).bind fun vs e1 => match setAll is vs e1 with
    | some e2 => .ok .nx e2
    | none => .bad
theorem setAll_len : ∀ {is : List Nat} {ds : List DV} {e e' : DEnv}, setAll is ds e = some e' → is.length = ds.length
  | [], [], _, _, _ => rfl
  | [], _ :: _, _, _, h => by cases h
  | _ :: _, [], _, _, h => by cases h
  | _ :: is, _ :: ds, e, e', h => by
    simp only [setAll] at h
    split at h
    · rw [List.length_cons, List.length_cons, setAll_len h]
    · cases h
/-- behind the values -/
theorem par_fin {K : PySem.W.Frag} {σ : L2.St} {H H1 : Hp} {env env1 env2 : DEnv} {is : List Nat} {vs : List V} {ds : List DV} (i : SI K TB H0 M σ H env) (e : EP1 K TB σ H env H1 env1) (r : PRs K H H1 vs ds) (hm : 0 ∉ is ∨ M = none) (q : setAll is ds env1 = some env2) : SI K TB H0 M (setV is vs σ) H1 env2 :=
  (i.step e).setAll hm (r.whole i.gone) (fun p hp a zs hz ow => by
    have h := r.mem p hp
    rw [hz] at h
    obtain ⟨b, ws, e', _, _, n⟩ := h
    cases e'
    obtain ⟨us, q⟩ := e.base a (e.sub a ow)
    rw [n] at q
    cases q) q
theorem so_par2 {i j : Nat} {x y : Str} {a b : Expr} {px py pt pos : Pos} {kt k2 : Nat} {pt2 : Pos} {fs : DEnv → R (List DV)} (hc : X.calm = true) (hN : X.N.Nodup) (hi : X.N[i]? = some x) (hj : X.N[j]? = some y) (hij : i ≠ j)
    (hx : X.env.scope.names.lookup x = some .local) (hy : X.env.scope.names.lookup y = some .local) (hw : swappedStores [.Tuple [.Name x px, .Name y py] kt pt] (.Tuple [a, b] k2 pt2) X.env = pure (some [x, y]))
    (hs : swapsWithSole [.Tuple [.Name x px, .Name y py] kt pt] (.Tuple [a, b] k2 pt2) pos.line X.env = pure false) (hm : 0 ∉ [i, j] ∨ M = none) (ha : SoV X TB W [a, b] fs) : SoS X TB W H0 M (.Assign [.Tuple [.Name x px, .Name y py] kt pt] (.Tuple [a, b] k2 pt2) pos) (parF [i, j] fs) := by
  obtain ⟨t, p, s⟩ := ha
  refine ⟨_, ps_par hc hN hi hj hij hx hy p hw hs, fun D σ H env i' k => ?_⟩
  show t σ H fun vs H1 => ∃ v w, vs = [v, w] ∧ D.nx ((σ.set i (some v)).set j (some w)) H1
  refine use_snd s i' k fun ds env1 vs H1 hfe e1 r i1 k1 => ?_
  cases hq : setAll [i, j] ds env1 with
  | none => rw [hq] at k1; exact k1.elim
  | some env2 =>
    rw [hq] at k1
    have hl := setAll_len hq
    have hv := r.length
    have fin := par_fin i' e1 r hm hq
    have h2 : vs.length = 2 := by rw [hv, ← hl]; rfl
    obtain ⟨v, w, e⟩ : ∃ v w, vs = [v, w] := by
      cases vs with
      | nil => cases h2
      | cons v vs =>
        cases vs with
        | nil => cases h2
        | cons w vs =>
          cases vs with
          | nil => exact ⟨v, w, rfl⟩
          | cons _ _ => cases h2
    subst e
    exact ⟨v, w, rfl, k1 _ H1 (Stay.refl _) fin⟩
def SoNs (X : Cx) (tg : List Expr) (is : List Nat) : Prop := ∃ g : TGs, PGs X tg g ∧ ∀ (vs : List V) (σ : L2.St) (H : Hp) (Q : L2.St → Hp → Prop), vs.length = is.length → Q (setV is vs σ) H → g vs σ H Q
theorem so_nsnil : SoNs X [] [] := ⟨_, pgs_nil, fun vs σ H Q hl q => by
  cases vs with
  | nil => exact ⟨rfl, q⟩
  | cons _ _ => cases hl⟩
theorem so_nscons {i : Nat} {x : Str} {px : Pos} {es : List Expr} {is : List Nat} (hN : X.N.Nodup) (hi : X.N[i]? = some x) (hx : L2.Loc X.env.scope x) (hf : X.fn x = true ∨ X.env.scope.names.lookup x = some .local) (h : SoNs X es is) : SoNs X (.Name x px :: es) (i :: is) := by
  obtain ⟨g, p, s⟩ := h
  refine ⟨_, pgs_cons (pg_name hN hi hx hf) p rfl, fun vs σ H Q hl q => ?_⟩
  cases vs with
  | nil => cases hl
  | cons v vs => exact ⟨v, vs, rfl, s vs _ H Q (by simpa using hl) q⟩
/-- by way of a tuple -/
theorem so_part {ts es : List Expr} {is : List Nat} {kt k2 : Nat} {pt pt2 pos : Pos} {fs : DEnv → R (List DV)} (hc : X.calm = true) (hst : (assignEach ts X.env).findIdx? (·.1) = none) (hnl : (assignEach ts X.env).length = is.length) (hw : swappedStores [.Tuple ts kt pt] (.Tuple es k2 pt2) X.env = pure none)
    (hs : swapsWithSole [.Tuple ts kt pt] (.Tuple es k2 pt2) pos.line X.env = pure false) (h1 : (assignEach [.Tuple ts kt pt] X.env).map (·.2) = [assign (.Tuple ts kt pt) X.env]) (hm : 0 ∉ is ∨ M = none) (hz : is.length ≤ sizeLine) (hg : SoNs X ts is) (ha : SoV X TB W es fs) : SoS X TB W H0 M (.Assign [.Tuple ts kt pt] (.Tuple es k2 pt2) pos) (parF is fs) := by
  obtain ⟨t, p, s⟩ := ha
  obtain ⟨g, pg, sg⟩ := hg
  refine ⟨_, ps_asg (pe_tup p) (pg_tup hc pg hnl hst) hs hw h1, fun D σ H env i' k => ?_⟩
  show t σ H fun vs H1 => vs.length ≤ sizeLine ∧ ∀ p, H1 p = none → ∃ a xs, V.ref p = .ref a ∧ SqT X.K (upd H1 p (.tup vs)) a xs ∧ xs.length = is.length ∧ g xs σ (upd H1 p (.tup vs)) D.nx
  refine use_snd s i' k fun ds env1 vs H1 hfe e1 r i1 k1 => ?_
  cases hq : setAll is ds env1 with
  | none => rw [hq] at k1; exact k1.elim
  | some env2 =>
    rw [hq] at k1
    have hl := setAll_len hq
    have hv := r.length
    have fin := par_fin i' e1 r hm hq
    refine ⟨by omega, fun p n => ⟨p, vs, rfl, .inl (.inl upd_same), by omega, sg vs σ _ _ (by omega) (k1 _ _ (stay_new n) ?_)⟩⟩
    exact fin.step ((EP1.refl fin.rep).new n)
end
end Wd
/-! Wd 15: a text of Python is a compact program: checked, and what follows. -/
namespace Wd
open PySem PySem.Spec PyProof.Rows L2
/-- what is told of the module -/
structure CX where
  N : List Str
  fns : List (Str × Nat)
  blts : List Str
  glos : List Str
  excs : List Str
def notStar : Expr → Bool
  | .Starred .. => false
  | _ => true
def notSl : Expr → Bool
  | .Slice .. => false
  | _ => true
def notSet : Expr → Bool
  | .Set .. => false
  | _ => true
def notComp : Expr → Bool
  | .ListComp .. => false
  | .SetComp .. => false
  | .DictComp .. => false
  | _ => true
def plainT : Expr → Bool
  | .UnaryOp .Not .. => false
  | .BoolOp .. => false
  | .IfExp .. => false
  | .Compare .. => false
  | _ => true
def nmOk (x : Str) : Bool := decide (¬ x = "__debug__") && decide (¬ x = "__classdict__")
def visB (sc : Scope) (x : Str) : Bool := match sc.names.lookup x with
  | some .local => true
  | some .cell => true
  | some .free => true
  | _ => false
def glB (sc : Scope) (x : Str) : Bool := decide (sc.names.lookup x = some .globalImplicit)
def locB (sc : Scope) (fn : Str → Bool) (x : Str) : Bool := match sc.names.lookup x with
  | some .local => true
  | some .cell => fn x
  | _ => false
def op2Op : Op2 → Operator
  | .add => .Add
  | .sub => .Sub
  | .mul => .Mult
  | .fdiv => .FloorDiv
  | .mod => .Mod
  | .pow => .Pow
def ownP (N : List Str) (own : List Nat) : Option (List (Str × Nat)) := own.mapM fun i => (N[i]?).map fun x => (x, i)
def stars : List Expr → Bool
  | [] => true
  | e :: es => notStar e && stars es
mutual
def okG (C : CX) (sc : Scope) (fn : Str → Bool) : Tg → Expr → Bool
  | .name i, e => match e with
    | .Name x _ => decide (C.N[i]? = some x) && locB sc fn x
    | _ => false
  | .tup gs, e => match e with
    | .Tuple es _ _ => okGs C sc fn gs es && stars es
    | _ => false
def okGs (C : CX) (sc : Scope) (fn : Str → Bool) : Tgs → List Expr → Bool
  | .nil, es => match es with
    | [] => true
    | _ => false
  | .cons g gs, es => match es with
    | e :: es => notStar e && okG C sc fn g e && okGs C sc fn gs es
    | _ => false
end
mutual
def okE (C : CX) (sc : Scope) : E → Expr → Bool
  | .var i, e => match e with
    | .Name x _ => decide (C.N[i]? = some x) && visB sc x && nmOk x
    | _ => false
  | .int i, e => match e with
    | .Constant (.int j) _ _ => decide (i = j)
    | _ => false
  | .str s, e => match e with
    | .Constant (.str x) _ _ => decide (s = x)
    | _ => false
  | .bl b, e => match e with
    | .Constant (.bool c) _ _ => decide (b = c)
    | _ => false
  | .non, e => match e with
    | .Constant .none _ _ => true
    | _ => false
  | .glo k, e => match e with
    | .Name x _ => decide (C.glos[k]? = some x) && glB sc x && nmOk x
    | _ => false
  | .bin o a b, e => match e with
    | .BinOp l op r _ => decide (op = op2Op o) && okE C sc a l && okE C sc b r
    | _ => false
  | .rep a b, e => match e with
    | .BinOp l .Mult r _ => okE C sc a l && okE C sc b r
    | _ => false
  | .neg a, e => match e with
    | .UnaryOp .USub x _ => okE C sc a x
    | _ => false
  | .cmp o a b, e => match e with
    | .Compare l [op] [r] _ => decide (op = cmOp o) && notSet r && okE C sc a l && okE C sc b r
    | _ => false
  | .chain o p a b c, e => match e with
    | .Compare l [op, op'] [r, s] _ => decide (op = cmOp o) && decide (op' = cmOp p) && notSet s && okE C sc a l && okE C sc b r && okE C sc c s
    | _ => false
  | .ands es, e => match e with
    | .BoolOp .And vs _ => okBs C sc es vs
    | _ => false
  | .ors es, e => match e with
    | .BoolOp .Or vs _ => okBs C sc es vs
    | _ => false
  | .nott a, e => match e with
    | .UnaryOp .Not x _ => okE C sc a x
    | _ => false
  | .ife c a b, e => match e with
    | .IfExp t x y _ => okT C sc c t && okE C sc a x && okE C sc b y
    | _ => false
  | .tup es, e => match e with
    | .Tuple vs _ _ => okEs C sc es vs
    | _ => false
  | .lst es, e => match e with
    | .List vs _ => okEs C sc es vs
    | _ => false
  | .idx a i, e => match e with
    | .Subscript x y _ => notSl y && okE C sc a x && okE C sc i y
    | _ => false
  | .slc a lo hi, e => match e with
    | .Subscript x (.Slice l h none _) _ => okE C sc a x && okO C sc lo l && okO C sc hi h
    | _ => false
  | .call f es, e => match e with
    | .Call (.Name x _) vs [] _ => decide (C.fns[f]? = some (x, vs.length)) && glB sc x && nmOk x && okEs C sc es vs
    | _ => false
  | .callm f i es, e => match e with
    | .Call (.Name x _) (.Name y _ :: vs) [] _ => decide (C.fns[f]? = some (x, vs.length + 1)) && glB sc x && nmOk x && decide (C.N[i]? = some y) && visB sc y && nmOk y && okEs C sc es vs
    | _ => false
  | .blt b es, e => match e with
    | .Call (.Name x _) (v :: vs) [] _ => decide (x = Str.ofString b.id) && decide (x ∈ C.blts) && glB sc x && okEs C sc es (v :: vs)
    | _ => false
  | .lc elt g it c own, e => match e with
    | .ListComp el [⟨tg, iter, ifs, 0⟩] scope _ => (match ownP C.N own with
      | some ps => blkC C.N sc scope ps && notSet iter && (tgs g).all (fun i => decide (i ∈ own)) && okI C sc it tg iter && okG C (relS scope sc) (fun x => scope.names.lookup x == some .cell) g tg && okTs C (relS scope sc) c ifs && okE C (relS scope sc) elt el
      | none => false)
    | _ => false
  | .fmt a, e => match e with
    | .FormattedValue x (-1) none _ => okE C sc a x
    | _ => false
  | .js es, e => match e with
    | .JoinedStr (u :: v :: vs) _ => okEs C sc es (u :: v :: vs)
    | _ => false
def okEs (C : CX) (sc : Scope) : Es → List Expr → Bool
  | .nil, vs => match vs with
    | [] => true
    | _ => false
  | .cons a es, vs => match vs with
    | v :: vs => notStar v && okE C sc a v && okEs C sc es vs
    | _ => false
def okBs (C : CX) (sc : Scope) : Es → List Expr → Bool
  | .nil, _ => false
  | .cons a es, vs => match es with
    | .nil => (match vs with
      | [v] => okE C sc a v
      | _ => false)
    | es => (match vs with
      | v :: w :: vs => okE C sc a v && okBs C sc es (w :: vs)
      | _ => false)
def okO (C : CX) (sc : Scope) : Eo → Option Expr → Bool
  | .no, e => match e with
    | none => true
    | _ => false
  | .so a, e => match e with
    | some x => okE C sc a x
    | _ => false
def okT (C : CX) (sc : Scope) : T → Expr → Bool
  | .tru a, e => plainT e && okE C sc a e
  | .cmp o a b, e => match e with
    | .Compare l [op] [r] _ => decide (op = cmOp o) && notSet r && okE C sc a l && okE C sc b r
    | _ => false
  | .chain o p a b c, e => match e with
    | .Compare l [op, op'] [r, s] _ => decide (op = cmOp o) && decide (op' = cmOp p) && notSet s && okE C sc a l && okE C sc b r && okE C sc c s
    | _ => false
  | .ands ts, e => match e with
    | .BoolOp .And vs _ => okW C sc ts vs
    | _ => false
  | .ors ts, e => match e with
    | .BoolOp .Or vs _ => okW C sc ts vs
    | _ => false
  | .nott t, e => match e with
    | .UnaryOp .Not x _ => okT C sc t x
    | _ => false
/-- tests in a row, one at least -/
def okW (C : CX) (sc : Scope) : Ts → List Expr → Bool
  | .nil, _ => false
  | .cons t ts, vs => match ts with
    | .nil => (match vs with
      | [v] => okT C sc t v
      | _ => false)
    | ts => (match vs with
      | v :: w :: vs => okT C sc t v && okW C sc ts (w :: vs)
      | _ => false)
/-- a comprehension's tests: none or one -/
def okTs (C : CX) (sc : Scope) : Ts → List Expr → Bool
  | .nil, vs => match vs with
    | [] => true
    | _ => false
  | .cons t ts, vs => match ts with
    | .nil => (match vs with
      | [v] => okT C sc t v
      | _ => false)
    | _ => false
def okI (C : CX) (sc : Scope) : I → Expr → Expr → Bool
  | .data a, _, e => okE C sc a e
  | .rng1 a, _, e => match e with
    | .Call (.Name x _) [v] [] _ => decide (x = "range") && decide (x ∈ C.blts) && glB sc x && notStar v && okE C sc a v
    | _ => false
  | .rng2 a b, _, e => match e with
    | .Call (.Name x _) [v, w] [] _ => decide (x = "range") && decide (x ∈ C.blts) && glB sc x && notStar v && notStar w && okE C sc a v && okE C sc b w
    | _ => false
  | .enum es, tg, e => match tg, e with
    | .Tuple _ _ _, .Call (.Name x _) [v] [] _ => decide (x = "enumerate") && decide (x ∈ C.blts) && glB sc x && notStar v && okEs C sc es [v]
    | _, _ => false
  | .zip es, tg, e => match tg, e with
    | .Tuple _ _ _, .Call (.Name x _) [v, w] [] _ => decide (x = "zip") && decide (x ∈ C.blts) && glB sc x && notStar v && notStar w && okEs C sc es [v, w]
    | _, _ => false
end
/-! ### what the looks at the text give -/
theorem star_eq {e : Expr} (h : notStar e = true) (es : List Expr) (env : Env) : starEach (e :: es) env = (false, eval e env) :: starEach es env := by
  cases e <;> first | rfl | cases h
theorem stars_any {env : Env} {pos : Pos} : ∀ {es : List Expr}, stars es = true → (backTo pos (starEach es env)).any (·.1) = false
  | [], _ => rfl
  | e :: es, h => by
    unfold stars at h
    rw [Bool.and_eq_true] at h
    rw [star_eq h.1]
    show ((false, _) :: backTo pos (starEach es env)).any (·.1) = false
    rw [List.any_cons, stars_any h.2]
    rfl
theorem okEs_stars {C : CX} {sc : Scope} : ∀ {es : Es} {vs : List Expr}, okEs C sc es vs = true → stars vs = true
  | .nil, [], _ => rfl
  | .nil, _ :: _, h => by cases h
  | .cons _ _, [], h => by cases h
  | .cons a es, v :: vs, h => by
    simp only [okEs, Bool.and_eq_true] at h
    unfold stars
    rw [h.1.1, okEs_stars h.2]
    rfl
theorem evDs_len {O : Orc} {C : CX} {sc : Scope} : ∀ {es : Es} {vs : List Expr} {e e' : DEnv} {xs : List PyData}, okEs C sc es vs = true → evDs O es e = .ok xs e' → xs.length = vs.length
  | .nil, [], _, _, _, _, h => by
    simp only [evDs] at h
    cases h
    rfl
  | .nil, _ :: _, _, _, _, h, _ => by cases h
  | .cons _ _, [], _, _, _, h, _ => by cases h
  | .cons a es, v :: vs, e, e', xs, h, q => by
    simp only [okEs, Bool.and_eq_true] at h
    simp only [evDs] at q
    cases ha : ev O a e with
    | bad => rw [ha] at q; cases q
    | exc _ => rw [ha] at q; cases q
    | ok p e1 =>
      rw [ha] at q
      simp only [R.bind_ok] at q
      cases hz : frz p e1 with
      | none => rw [hz] at q; cases q
      | some w =>
        obtain ⟨x, e2⟩ := w
        rw [hz] at q
        dsimp only at q
        cases hr : evDs O es e2 with
        | bad => rw [hr] at q; cases q
        | exc _ => rw [hr] at q; cases q
        | ok ys e3 =>
          rw [hr] at q
          simp only [R.bind_ok] at q
          cases q
          rw [List.length_cons, List.length_cons, evDs_len h.2 hr]
theorem nm1 {x : Str} (h : nmOk x = true) : (x == ("__debug__" : Str)) = false ∧ (x == ("__classdict__" : Str)) = false := by
  simp only [nmOk, Bool.and_eq_true, decide_eq_true_eq] at h
  exact ⟨beq_eq_false_iff_ne.mpr h.1, beq_eq_false_iff_ne.mpr h.2⟩
theorem vis1 {sc : Scope} {x : Str} (h : visB sc x = true) : Vis sc x := by
  unfold visB at h
  split at h
  · exact .inl (by assumption)
  · exact .inr (.inl (by assumption))
  · exact .inr (.inr (by assumption))
  · cases h
theorem plain_ix {i : Expr} (h : notSl i = true) : PlainIx i := by
  intro o j
  cases i <;> first | rfl | cases h
theorem plain_t {e : Expr} (h : plainT e = true) (env : Env) : ∀ whole, isTrue e env whole = (do let v ← whole; standAt e.pos; holding [v] (truthy v)) := by
  intro whole
  cases e <;> first | rfl | cases h | (rename_i op _ _; cases op <;> first | rfl | cases h)
theorem behind_set {op : CmpOp} {e : Expr} (h : notSet e = true) : behindInMarks op e = false := by
  cases e <;> first | rfl | cases h
theorem folded_set {e : Expr} (h : notSet e = true) (env : Env) : ∀ x, foldedSetIterable e env x = pure x := by
  intro x
  cases e <;> first | rfl | cases h
theorem ownP_map {N : List Str} : ∀ {own : List Nat} {ps : List (Str × Nat)}, ownP N own = some ps → ps.map (·.2) = own
  | [], ps, h => by
    simp [ownP] at h
    subst h
    rfl
  | i :: own, ps, h => by
    unfold ownP at h
    rw [List.mapM_cons] at h
    simp only [Option.bind_eq_bind, Option.bind_eq_some_iff, Option.map_eq_some_iff] at h
    obtain ⟨p, ⟨x, _, rfl⟩, qs, h2, h3⟩ := h
    cases h3
    rw [List.map_cons, ownP_map (own := own) h2]
end Wd
/-! Wd 16: a checked text computes what its compact form tells: targets, operators, texts. -/
namespace Wd
open PySem PySem.Spec PyProof.Rows L2
theorem od_mul {K : PySem.W.Frag} : OpD K (rI CMulW fun i j => .int (i * j)) (op2 .mul) := by
  intro H x y dx dy dv hx hy e Q q
  cases dx <;> cases dy <;> simp only [op2, reduceCtorEq] at e
  cases hx.int
  cases hy.int
  split at e
  · cases e
    rename_i h
    simp only [mulOk, decide_eq_true_eq] at h
    exact ⟨_, _, rfl, rfl, h, q _ _ (grow_d (.int _))⟩
  · cases e
section
variable {X : Cx} {TB : TL} {W : WEx}
theorem so_op {a b : Expr} {fa fb : DEnv → R PV} {pos : Pos} {o : Op2} (hc : X.calm = true) (ha : SoE X TB W a fa) (hb : SoE X TB W b fb) :
    SoE X TB W (.BinOp a (op2Op o) b pos) (fun e => (fa e).bind fun pa e1 => (fb e1).bind fun pb e2 => lift1 ((res pa e2).bind fun x => (res pb e2).bind fun y => (op2 o x y).map .val) e2) := by
  cases o with
  | add => exact so_bin op_addA od_add ha hb
  | sub => exact so_bin op_sub od_sub ha hb
  | mul => exact so_bin op_mulW od_mul ha hb
  | fdiv => exact so_bin op_fdivA od_fdiv ha hb
  | mod => exact so_bin op_modN od_mod ha hb
  | pow => exact so_bin op_pow od_pow ha hb
/-- the parts of an f-string -/
def SoJ (X : Cx) (TB : TL) (W : WEx) (es : List Expr) (f : Str → DEnv → R PV) : Prop := ∃ ts : List TE, PJ X es ts ∧ ∀ acc, Snd X.K TB W (fun σ H (Q : VK) => tJs ts acc σ H fun out H1 => Q (.str out) H1) (f acc) (fun H H' σ env' v pv => PR X.K H H' σ env' v pv)
theorem so_jnil : SoJ X TB W [] (fun acc e => .ok (.val (.d (.str acc))) e) := ⟨[], .nil, fun acc σ H env re => sa_val fun Q k => k _ H (EP1.refl re) (Fz.str acc)⟩
theorem so_jcons {e : Expr} {es : List Expr} {f : DEnv → R PV} {fs : Str → DEnv → R PV} (he : SoE X TB W e f) (hr : SoJ X TB W es fs) : SoJ X TB W (e :: es) (fun acc e => (f e).bind fun p e1 => match res p e1 with
    | some (.str y) => if (acc ++ y).length ≤ sizeLine then fs (acc ++ y) e1 else .bad
    | _ => .bad) := by
  obtain ⟨t, p, s⟩ := he
  obtain ⟨ts, ps, ss⟩ := hr
  refine ⟨t :: ts, .cons p ps, fun acc σ H env re => ?_⟩
  show SndAt X.K TB W σ H env (fun Q : VK => t σ H fun x H1 => ∃ y : Str, x = .str y ∧ (acc ++ y).length ≤ sizeLine ∧ tJs ts (acc ++ y) σ H1 fun out H2 => Q (.str out) H2) _ _
  refine sa_bind (s σ H env re) fun x p H1 env1 e1 r1 => ?_
  split
  · rename_i y hy
    split
    · rename_i hz
      cases (res_rd e1 r1 hy).str
      have z := (ss (acc ++ y)).at e1
      exact ⟨fun pv env' q Q k => ⟨y, rfl, hz, z.1 pv env' q Q fun v H' e2 ⟨e12, r⟩ => k v H' e2 (r.whole e1)⟩, fun k' q hw Q => ⟨y, rfl, hz, z.2 k' q hw Q⟩⟩
    · exact sa_bad
  · exact sa_bad
theorem so_js {v1 v2 : Expr} {rest : List Expr} {pos : Pos} {f : Str → DEnv → R PV} (h : SoJ X TB W (v1 :: v2 :: rest) f) : SoE X TB W (.JoinedStr (v1 :: v2 :: rest) pos) (f Str.empty) := by
  obtain ⟨ts, p, s⟩ := h
  exact ⟨_, pe_joined p, s Str.empty⟩
theorem so_fmt {a : Expr} {fa : DEnv → R PV} {pos : Pos} (ha : SoE X TB W a fa) : SoE X TB W (.FormattedValue a (-1) none pos) (fun e => (fa e).bind fun p e1 => match res p e1 with
    | some (.str y) => if y.length ≤ sizeLine then .ok (.val (.d (.str y))) e1 else .bad
    | some (.int i) => if i.natAbs.log2 < 1920 then .ok (.val (.d (.str (toString i)))) e1 else .bad
    | _ => .bad) := by
  obtain ⟨t, p, s⟩ := ha
  refine ⟨_, pe_fmt p, fun σ H env re => ?_⟩
  show SndAt X.K TB W σ H env (fun Q : VK => t σ H fun x H1 => (∃ y : Str, x = .str y ∧ y.length ≤ sizeLine ∧ Q (.str y) H1) ∨ ∃ i : Int, x = .int i ∧ i.natAbs.log2 < 1920 ∧ Q (.str (toString i)) H1) _ _
  refine sa_bind (s σ H env re) fun x p H1 env1 e1 r1 => ?_
  split
  · rename_i y hy
    split
    · rename_i hz
      cases (res_rd e1 r1 hy).str
      exact sa_val fun Q k => .inl ⟨y, rfl, hz, k _ H1 e1 (Fz.str y)⟩
    · exact sa_bad
  · rename_i i hi
    split
    · rename_i hz
      cases (res_rd e1 r1 hi).int
      exact sa_val fun Q k => .inr ⟨i, rfl, hz, k _ H1 e1 (Fz.str _)⟩
    · exact sa_bad
  · exact sa_bad
theorem SoE.cg {e : Expr} {f g : DEnv → R PV} (h : SoE X TB W e f) (q : ∀ env, g env = f env) : SoE X TB W e g := (funext q : g = f) ▸ h
theorem SoT.cg {e : Expr} {f g : DEnv → R Bool} (h : SoT X TB W e f) (q : ∀ env, g env = f env) : SoT X TB W e g := (funext q : g = f) ▸ h
theorem SoA.cg {e : List Expr} {f g : DEnv → R (List PyData)} (h : SoA X TB W e f) (q : ∀ env, g env = f env) : SoA X TB W e g := (funext q : g = f) ▸ h
theorem SoP.cg {e : List Expr} {f g : DEnv → R (List PyData)} (h : SoP X TB W e f) (q : ∀ env, g env = f env) : SoP X TB W e g := (funext q : g = f) ▸ h
theorem SoW.cg {e : Expr} {f g : DEnv → R Bool} (h : SoW X TB W e f) (q : ∀ env, g env = f env) : SoW X TB W e g := (funext q : g = f) ▸ h
theorem SoTs.cg {e : List Expr} {f g : DEnv → R Bool} (h : SoTs X TB W e f) (q : ∀ env, g env = f env) : SoTs X TB W e g := (funext q : g = f) ▸ h
theorem SoO.cg {e : Option Expr} {f g : DEnv → R (Option Int)} (h : SoO X TB W e f) (q : ∀ env, g env = f env) : SoO X TB W e g := (funext q : g = f) ▸ h
theorem SoI.cg {t e : Expr} {f g : DEnv → R (List PyData)} (h : SoI X TB W t e f) (q : ∀ env, g env = f env) : SoI X TB W t e g := (funext q : g = f) ▸ h
/-! ### targets -/
theorem loc1 {fn : Str → Bool} {sc : Scope} {x : Str} (h : locB sc fn x = true) : L2.Loc sc x ∧ (fn x = true ∨ sc.names.lookup x = some .local) := by
  unfold locB at h
  split at h
  · exact ⟨.inl (by assumption), .inr (by assumption)⟩
  · exact ⟨.inr (by assumption), .inl h⟩
  · cases h
theorem okGs_len {C : CX} {sc : Scope} {fn : Str → Bool} : ∀ {gs : Tgs} {es : List Expr}, okGs C sc fn gs es = true → ∀ (env : Env) xs e e', bindTs gs xs e = some e' → xs.length = (assignEach es env).length
  | .nil, [], _, env, xs, e, e', q => by
    cases xs with
    | nil => rfl
    | cons _ _ => cases q
  | .nil, _ :: _, h, _, _, _, _, _ => by cases h
  | .cons _ _, [], h, _, _, _, _, _ => by cases h
  | .cons g gs, x :: es, h, env, xs, e, e', q => by
    simp only [okGs, Bool.and_eq_true] at h
    cases xs with
    | nil => cases q
    | cons y ys =>
      simp only [bindTs] at q
      have hl : (assignEach (x :: es) env).length = (assignEach es env).length + 1 := by
        cases x <;> rfl
      rw [hl, List.length_cons]
      split at q
      · rw [okGs_len h.2 env _ _ _ q]
      · cases q
theorem stars_asg {env : Env} : ∀ {es : List Expr}, stars es = true → (assignEach es env).findIdx? (·.1) = none
  | [], _ => rfl
  | e :: es, h => by
    unfold stars at h
    rw [Bool.and_eq_true] at h
    have hl : assignEach (e :: es) env = (false, assign e env) :: assignEach es env := by
      cases e <;> first | rfl | cases h.1
    rw [hl, List.findIdx?_cons, stars_asg h.2]
    rfl
theorem asg_cons {e : Expr} (h : notStar e = true) (es : List Expr) (env : Env) : (assignEach (e :: es) env).map (·.2) = assign e env :: (assignEach es env).map (·.2) := by cases e <;> first | rfl | cases h
mutual
theorem g_of {C : CX} {fn : Str → Bool} (hN : X.N = C.N) (nd : X.N.Nodup) (hc : X.calm = true) (hf : ∀ x, fn x = true → X.fn x = true) : ∀ (g : Tg) {e : Expr}, okG C X.env.scope fn g e = true → SoG X TB e g
  | .name i, e, h => by
    unfold okG at h
    split at h
    · simp only [Bool.and_eq_true, decide_eq_true_eq] at h
      obtain ⟨h1, h2⟩ := loc1 h.2
      exact so_gname nd (by rw [hN]; exact h.1) h1 (h2.imp (hf _) id)
    · cases h
  | .tup gs, e, h => by
    unfold okG at h
    split at h
    · simp only [Bool.and_eq_true] at h
      exact so_gtup hc (stars_asg h.2) (okGs_len h.1 _) (gs_of hN nd hc hf gs h.1)
    · cases h
theorem gs_of {C : CX} {fn : Str → Bool} (hN : X.N = C.N) (nd : X.N.Nodup) (hc : X.calm = true) (hf : ∀ x, fn x = true → X.fn x = true) : ∀ (gs : Tgs) {es : List Expr}, okGs C X.env.scope fn gs es = true → SoGs X TB es gs
  | .nil, es, h => by
    unfold okGs at h
    split at h
    · exact so_gnil
    · cases h
  | .cons g gs, es, h => by
    unfold okGs at h
    split at h
    · simp only [Bool.and_eq_true] at h
      exact so_gcons (asg_cons h.1.1 _ _) (g_of hN nd hc hf g h.1.2) (gs_of hN nd hc hf gs h.2)
    · cases h
end
end
end Wd
/-! Wd 17: a checked expression computes what its compact form tells. -/
namespace Wd
open PySem PySem.Spec PyProof.Rows L2
/-- what a body's context knows of the module, for the checker's lists -/
structure Good (C : CX) (O : Orc) (TB : TL) (cr : Nat → Addr) (X : Cx) (W : WEx) : Prop where
  hN : X.N = C.N
  nd : X.N.Nodup
  calm : X.calm = true
  gd : X.A.guards = some []
  un : X.A.units + 65 < cLine
  blts : ∀ x ∈ C.blts, X.mg x = none
  fns : ∀ (i : Nat) (x : Str) (n : Nat), C.fns[i]? = some (x, n) → ∃ (k : Nat) (f : Addr) (fd : FuncData) (ps : List Str), FnG X.prog X.w X.K X.mg X.base k f fd ps (spF X.K TB cr n (O.cf i)) ∧ Room k X.A ∧ Binds X.K fd ps [] ∧ X.mg x = some (.ref f) ∧ PySem.W.keepIn X.K (.ref f) = true
  glos : ∀ (k : Nat) (x : Str), C.glos[k]? = some x → ∃ d v u, O.glo[k]? = some d ∧ X.mg x = some u ∧ RelV v u ∧ ∀ H, Fz X.K H v d
  tk : Takes X (WW cr W)
section
variable {C : CX} {O : Orc} {TB : TL} {cr : Nat → Addr}
theorem Good.blk {X : Cx} {W : WEx} (G : Good C O TB cr X W) (s : Shared) (H : Hp) (scope : Scope) (env : Env) (fp : List Addr) : Good C O TB cr (X.blk s H scope env fp) noW :=
  ⟨G.hN, G.nd, G.calm, G.gd, G.un, G.blts, G.fns, G.glos, takes0.imp fun c d σ H ⟨_, _, z⟩ => z⟩
theorem gl1 {X : Cx} {x : Str} (h : glB X.env.scope x = true) : Gl X x := by
  have h2 : X.env.scope.names.lookup x = some .globalImplicit := by simpa [glB] using h
  exact h2
theorem star_list {X : Cx} {es : List Expr} (h : stars es = true) (env : Env) : starEach es env = es.map fun e => (false, eval e env) := by
  induction es with
  | nil => rfl
  | cons e es ih =>
    unfold stars at h
    rw [Bool.and_eq_true] at h
    rw [star_eq h.1, ih h.2]
    rfl
mutual
theorem e_of : ∀ (a : E) {X : Cx} {W : WEx} {e : Expr}, Good C O TB cr X W → okE C X.env.scope a e = true → SoE X TB W e (ev O a)
  | .var i, X, W, e, G, h => by
    unfold okE at h
    split at h
    · simp only [Bool.and_eq_true, decide_eq_true_eq] at h
      exact so_var (by rw [G.hN]; exact h.1.1) (vis1 h.1.2) (nm1 h.2).1 (nm1 h.2).2
    · cases h
  | .int i, X, W, e, G, h => by
    unfold okE at h
    split at h
    · simp only [decide_eq_true_eq] at h
      subst h
      exact so_int
    · cases h
  | .str i, X, W, e, G, h => by
    unfold okE at h
    split at h
    · simp only [decide_eq_true_eq] at h
      subst h
      exact so_str
    · cases h
  | .bl i, X, W, e, G, h => by
    unfold okE at h
    split at h
    · simp only [decide_eq_true_eq] at h
      subst h
      exact so_bl
    · cases h
  | .non, X, W, e, G, h => by
    unfold okE at h
    split at h
    · exact so_non
    · cases h
  | .glo k, X, W, e, G, h => by
    unfold okE at h
    split at h
    · simp only [Bool.and_eq_true, decide_eq_true_eq] at h
      obtain ⟨d, v, u, h1, h2, h3, h4⟩ := G.glos k _ h.1.1
      exact so_glo h1 (gl1 h.1.2) h2 h3 h4 (nm1 h.2).1
    · cases h
  | .bin o a b, X, W, e, G, h => by
    unfold okE at h
    split at h
    · simp only [Bool.and_eq_true, decide_eq_true_eq] at h
      obtain ⟨⟨rfl, h1⟩, h2⟩ := h
      exact (so_op G.calm (e_of a G h1) (e_of b G h2)).cg fun e => rfl
    · cases h
  | .rep a b, X, W, e, G, h => by
    unfold okE at h
    split at h
    · simp only [Bool.and_eq_true] at h
      exact (so_rep (e_of a G h.1) (e_of b G h.2)).cg fun e => rfl
    · cases h
  | .neg a, X, W, e, G, h => by
    unfold okE at h
    split at h
    · exact (so_neg (e_of a G h)).cg fun e => rfl
    · cases h
  | .cmp o a b, X, W, e, G, h => by
    unfold okE at h
    split at h
    · simp only [Bool.and_eq_true, decide_eq_true_eq] at h
      obtain ⟨⟨⟨rfl, h0⟩, h1⟩, h2⟩ := h
      exact (so_cmp G.un (behind_set h0) (e_of a G h1) (e_of b G h2)).cg fun e => rfl
    · cases h
  | .chain o p a b c, X, W, e, G, h => by
    unfold okE at h
    split at h
    · simp only [Bool.and_eq_true, decide_eq_true_eq] at h
      obtain ⟨⟨⟨⟨⟨rfl, rfl⟩, h0⟩, h1⟩, h2⟩, h3⟩ := h
      exact (so_chain G.un (behind_set h0) (e_of a G h1) (e_of b G h2) (e_of c G h3)).cg fun e => rfl
    · cases h
  | .ands es, X, W, e, G, h => by
    unfold okE at h
    split at h
    · exact (and_of es G h).cg fun e => rfl
    · cases h
  | .ors es, X, W, e, G, h => by
    unfold okE at h
    split at h
    · exact (or_of es G h).cg fun e => rfl
    · cases h
  | .nott a, X, W, e, G, h => by
    unfold okE at h
    split at h
    · exact (so_nottV (e_of a G h)).cg fun e => rfl
    · cases h
  | .ife c a b, X, W, e, G, h => by
    unfold okE at h
    split at h
    · simp only [Bool.and_eq_true] at h
      exact (so_ife (t_of c G h.1.1) (e_of a G h.1.2) (e_of b G h.2)).cg fun e => rfl
    · cases h
  | .tup es, X, W, e, G, h => by
    unfold okE at h
    split at h
    · exact (so_tup (ds_of es G h)).cg fun e => rfl
    · cases h
  | .lst es, X, W, e, G, h => by
    unfold okE at h
    split at h
    · exact (so_lst (ds_of es G h)).cg fun e => rfl
    · cases h
  | .idx a i, X, W, e, G, h => by
    unfold okE at h
    split at h
    · simp only [Bool.and_eq_true] at h
      exact (so_idx (plain_ix h.1.1) (e_of a G h.1.2) (e_of i G h.2)).cg fun e => rfl
    · cases h
  | .slc a lo hi, X, W, e, G, h => by
    unfold okE at h
    split at h
    · simp only [Bool.and_eq_true] at h
      exact (so_slc (e_of a G h.1.1) (o_of lo G h.1.2) (o_of hi G h.2)).cg fun e => rfl
    · cases h
  | .call f es, X, W, e, G, h => by
    unfold okE at h
    split at h
    · simp only [Bool.and_eq_true, decide_eq_true_eq] at h
      obtain ⟨⟨⟨h1, h2⟩, h3⟩, h4⟩ := h
      obtain ⟨k, fa, fd, ps, F, hr, hb, hm, hk⟩ := G.fns _ _ _ h1
      rename_i vs _
      have hs := okEs_stars h4
      cases vs with
      | nil =>
        cases es with
        | cons _ _ => cases h4
        | nil => exact (so_call0 F hr G.gd hb G.tk (gl1 h2) hm hk (nm1 h3).1).cg fun e => rfl
      | cons v vs =>
        have hs2 := hs
        unfold stars at hs2
        rw [Bool.and_eq_true] at hs2
        exact (so_call F hr G.gd hb G.tk (gl1 h2) hm hk rfl (nm1 h3).1 (star_eq hs2.1 _ _) (stars_any hs2.2) (fun env xs env' q => evDs_len h4 q) (ds_of es G h4)).cg fun e => rfl
    · cases h
  | .callm f i es, X, W, e, G, h => by
    unfold okE at h
    split at h
    · simp only [Bool.and_eq_true, decide_eq_true_eq] at h
      obtain ⟨⟨⟨⟨⟨⟨h1, h2⟩, h3⟩, h4⟩, h5⟩, h6⟩, h7⟩ := h
      obtain ⟨k, fa, fd, ps, F, hr, hb, hm, hk⟩ := G.fns _ _ _ h1
      exact (so_callm F hr G.gd hb G.tk (gl1 h2) hm hk (by rw [G.hN]; exact h4) (vis1 h5) (nm1 h6).1 (nm1 h6).2 (nm1 h3).1 (stars_any (okEs_stars h7)) (fun env xs env' q => by rw [evDs_len h7 q]) (ds_of es G h7)).cg fun e => rfl
    · cases h
  | .blt b es, X, W, e, G, h => by
    unfold okE at h
    split at h
    · simp only [Bool.and_eq_true, decide_eq_true_eq] at h
      obtain ⟨⟨⟨h1, h2⟩, h3⟩, h4⟩ := h
      have hs2 := okEs_stars h4
      unfold stars at hs2
      rw [Bool.and_eq_true] at hs2
      exact (so_blt (b := b) G.calm G.gd G.un h1 (gl1 h3) (G.blts _ h2) (star_eq hs2.1 _ _) (stars_any hs2.2) (ps_of es G h4)).cg fun e => rfl
    · cases h
  | .lc elt g it c own, X, W, e, G, h => by
    unfold okE at h
    split at h
    · rename_i q0
      split at h
      · rename_i ps hps
        simp only [Bool.and_eq_true, List.all_eq_true, decide_eq_true_eq] at h
        obtain ⟨⟨⟨⟨⟨⟨h1, h2⟩, h3⟩, h4⟩, h5⟩, h6⟩, h7⟩ := h
        have e0 := ownP_map hps
        have L := so_lc (pos := q0) G.calm G.nd (LcOk.mk (X := X) (TB := TB) (W := W) (blkOk_by (by rw [G.hN]; exact h1)) (by rw [e0]; exact h3) (i_of it G h4) (fun s H Ca cl fp => g_of (X := X.blk s H _ (compEnvC _ cl Ca X.env) fp) G.hN G.nd G.calm (fun _ z => z) g h5)
          (fun s H Ca cl fp => c_of c (G.blk s H _ (compEnvC _ cl Ca X.env) fp) h6) (fun s H Ca cl fp => e_of elt (G.blk s H _ (compEnvC _ cl Ca X.env) fp) h7) (folded_set h2 _))
        rw [e0] at L
        exact L.cg fun e => rfl
      · cases h
    · cases h
  | .fmt a, X, W, e, G, h => by
    unfold okE at h
    split at h
    · exact (so_fmt (e_of a G h)).cg fun e => rfl
    · cases h
  | .js es, X, W, e, G, h => by
    unfold okE at h
    split at h
    · exact (so_js (j_of es G h)).cg fun e => rfl
    · cases h
theorem j_of : ∀ (es : Es) {X : Cx} {W : WEx} {vs : List Expr}, Good C O TB cr X W → okEs C X.env.scope es vs = true → SoJ X TB W vs (fun acc e => evJ O es acc e)
  | .nil, X, W, vs, G, h => by
    unfold okEs at h
    split at h
    · have z := so_jnil (X := X) (TB := TB) (W := W)
      have q : (fun acc e => evJ O .nil acc e) = fun acc (e : DEnv) => R.ok (.val (.d (.str acc))) e := by
        funext acc e
        rfl
      rw [q]
      exact z
    · cases h
  | .cons a es, X, W, vs, G, h => by
    unfold okEs at h
    split at h
    · simp only [Bool.and_eq_true] at h
      have z := so_jcons (e_of a G h.1.2) (j_of es G h.2)
      have q : (fun acc e => evJ O (.cons a es) acc e) = (fun acc (e : DEnv) => (ev O a e).bind fun p e1 => match res p e1 with
          | some (.str y) => if (acc ++ y).length ≤ sizeLine then evJ O es (acc ++ y) e1 else .bad
          | _ => .bad) := by
        funext acc e
        rfl
      rw [q]
      exact z
    · cases h
theorem ds_of : ∀ (es : Es) {X : Cx} {W : WEx} {vs : List Expr}, Good C O TB cr X W → okEs C X.env.scope es vs = true → SoA X TB W vs (evDs O es)
  | .nil, X, W, vs, G, h => by
    unfold okEs at h
    split at h
    · exact so_nilA.cg fun e => rfl
    · cases h
  | .cons a es, X, W, vs, G, h => by
    unfold okEs at h
    split at h
    · simp only [Bool.and_eq_true] at h
      exact (so_consA (star_eq h.1.1 _ _) (e_of a G h.1.2) (ds_of es G h.2)).cg fun e => rfl
    · cases h
theorem ps_of : ∀ (es : Es) {X : Cx} {W : WEx} {vs : List Expr}, Good C O TB cr X W → okEs C X.env.scope es vs = true → SoP X TB W vs (evPs O es)
  | .nil, X, W, vs, G, h => by
    unfold okEs at h
    split at h
    · exact so_nilP.cg fun e => rfl
    · cases h
  | .cons a es, X, W, vs, G, h => by
    unfold okEs at h
    split at h
    · simp only [Bool.and_eq_true] at h
      exact (so_consP (star_eq h.1.1 _ _) (e_of a G h.1.2) (ps_of es G h.2)).cg fun e => rfl
    · cases h
theorem and_of : ∀ (es : Es) {X : Cx} {W : WEx} {vs : List Expr} {pos : Pos}, Good C O TB cr X W → okBs C X.env.scope es vs = true → SoE X TB W (.BoolOp .And vs pos) (evAnd O es)
  | .nil, X, W, vs, pos, G, h => by
    unfold okBs at h
    cases h
  | .cons a .nil, X, W, vs, pos, G, h => by
    simp only [okBs] at h
    split at h
    · exact (so_one (e_of a G h)).cg fun e => rfl
    · cases h
  | .cons a (.cons b es), X, W, vs, pos, G, h => by
    unfold okBs at h
    dsimp only at h
    split at h
    · simp only [Bool.and_eq_true] at h
      exact (so_andV (e_of a G h.1) (and_of (.cons b es) G h.2)).cg fun e => rfl
    · cases h
theorem or_of : ∀ (es : Es) {X : Cx} {W : WEx} {vs : List Expr} {pos : Pos}, Good C O TB cr X W → okBs C X.env.scope es vs = true → SoE X TB W (.BoolOp .Or vs pos) (evOr O es)
  | .nil, X, W, vs, pos, G, h => by
    unfold okBs at h
    cases h
  | .cons a .nil, X, W, vs, pos, G, h => by
    simp only [okBs] at h
    split at h
    · exact (so_one (e_of a G h)).cg fun e => rfl
    · cases h
  | .cons a (.cons b es), X, W, vs, pos, G, h => by
    unfold okBs at h
    dsimp only at h
    split at h
    · simp only [Bool.and_eq_true] at h
      exact (so_orV (e_of a G h.1) (or_of (.cons b es) G h.2)).cg fun e => rfl
    · cases h
theorem o_of : ∀ (a : Eo) {X : Cx} {W : WEx} {e : Option Expr}, Good C O TB cr X W → okO C X.env.scope a e = true → SoO X TB W e (evO O a)
  | .no, X, W, e, G, h => by
    unfold okO at h
    split at h
    · exact so_noO.cg fun e => rfl
    · cases h
  | .so a, X, W, e, G, h => by
    unfold okO at h
    split at h
    · exact (so_soO (e_of a G h)).cg fun e => rfl
    · cases h
theorem t_of : ∀ (t : T) {X : Cx} {W : WEx} {e : Expr}, Good C O TB cr X W → okT C X.env.scope t e = true → SoT X TB W e (evT O t)
  | .tru a, X, W, e, G, h => by
    simp only [okT, Bool.and_eq_true] at h
    exact (so_tru (plain_t h.1 _) (e_of a G h.2)).cg fun e => rfl
  | .cmp o a b, X, W, e, G, h => by
    unfold okT at h
    split at h
    · simp only [Bool.and_eq_true, decide_eq_true_eq] at h
      obtain ⟨⟨⟨rfl, h0⟩, h1⟩, h2⟩ := h
      exact (so_cmpT G.un (behind_set h0) (e_of a G h1) (e_of b G h2)).cg fun e => rfl
    · cases h
  | .chain o p a b c, X, W, e, G, h => by
    unfold okT at h
    split at h
    · simp only [Bool.and_eq_true, decide_eq_true_eq] at h
      obtain ⟨⟨⟨⟨⟨rfl, rfl⟩, h0⟩, h1⟩, h2⟩, h3⟩ := h
      exact (so_chainT G.un (behind_set h0) (e_of a G h1) (e_of b G h2) (e_of c G h3)).cg fun e => rfl
    · cases h
  | .ands ts, X, W, e, G, h => by
    unfold okT at h
    split at h
    · exact ((wand_of ts G h).pt).cg fun e => rfl
    · cases h
  | .ors ts, X, W, e, G, h => by
    unfold okT at h
    split at h
    · exact ((wor_of ts G h).pt).cg fun e => rfl
    · cases h
  | .nott t, X, W, e, G, h => by
    unfold okT at h
    split at h
    · exact (so_not (t_of t G h)).cg fun e => rfl
    · cases h
theorem wand_of : ∀ (ts : Ts) {X : Cx} {W : WEx} {vs : List Expr} {pos : Pos}, Good C O TB cr X W → okW C X.env.scope ts vs = true → SoW X TB W (.BoolOp .And vs pos) (evTs O ts)
  | .nil, X, W, vs, pos, G, h => by
    unfold okW at h
    cases h
  | .cons a .nil, X, W, vs, pos, G, h => by
    simp only [okW] at h
    split at h
    · exact (so_and1 (t_of a G h)).cg fun e => rfl
    · cases h
  | .cons a (.cons b es), X, W, vs, pos, G, h => by
    unfold okW at h
    dsimp only at h
    split at h
    · simp only [Bool.and_eq_true] at h
      exact (so_and (t_of a G h.1) (wand_of (.cons b es) G h.2)).cg fun e => rfl
    · cases h
theorem wor_of : ∀ (ts : Ts) {X : Cx} {W : WEx} {vs : List Expr} {pos : Pos}, Good C O TB cr X W → okW C X.env.scope ts vs = true → SoW X TB W (.BoolOp .Or vs pos) (evTo O ts)
  | .nil, X, W, vs, pos, G, h => by
    unfold okW at h
    cases h
  | .cons a .nil, X, W, vs, pos, G, h => by
    simp only [okW] at h
    split at h
    · exact (so_or1 (t_of a G h)).cg fun e => rfl
    · cases h
  | .cons a (.cons b es), X, W, vs, pos, G, h => by
    unfold okW at h
    dsimp only at h
    split at h
    · simp only [Bool.and_eq_true] at h
      exact (so_or (t_of a G h.1) (wor_of (.cons b es) G h.2)).cg fun e => rfl
    · cases h
theorem c_of : ∀ (ts : Ts) {X : Cx} {W : WEx} {vs : List Expr}, Good C O TB cr X W → okTs C X.env.scope ts vs = true → SoTs X TB W vs (evTs O ts)
  | .nil, X, W, vs, G, h => by
    unfold okTs at h
    split at h
    · exact so_tsnil.cg fun e => rfl
    · cases h
  | .cons a .nil, X, W, vs, G, h => by
    simp only [okTs] at h
    split at h
    · exact (so_tsone (t_of a G h)).cg fun e => rfl
    · cases h
  | .cons a (.cons b es), X, W, vs, G, h => by
    unfold okTs at h
    cases h
theorem i_of : ∀ (it : I) {X : Cx} {W : WEx} {tg e : Expr}, Good C O TB cr X W → okI C X.env.scope it tg e = true → SoI X TB W tg e (evI O it)
  | .data a, X, W, tg, e, G, h => by
    unfold okI at h
    exact (so_data (e_of a G h)).cg fun e => rfl
  | .rng1 a, X, W, tg, e, G, h => by
    unfold okI at h
    split at h
    · simp only [Bool.and_eq_true, decide_eq_true_eq] at h
      obtain ⟨⟨⟨⟨rfl, h1⟩, h2⟩, h3⟩, h4⟩ := h
      exact (so_rng1 (gl1 h2) (G.blts _ h1) (star_eq h3 _ _) (e_of a G h4)).cg fun e => rfl
    · cases h
  | .rng2 a b, X, W, tg, e, G, h => by
    unfold okI at h
    split at h
    · simp only [Bool.and_eq_true, decide_eq_true_eq] at h
      obtain ⟨⟨⟨⟨⟨⟨rfl, h1⟩, h2⟩, h3⟩, h3'⟩, h4⟩, h5⟩ := h
      exact (so_rng2 (gl1 h2) (G.blts _ h1) (by rw [star_eq h3, star_eq h3']; rfl) (star_eq h3' _ _) (e_of a G h4) (e_of b G h5)).cg fun e => rfl
    · cases h
  | .enum es, X, W, tg, e, G, h => by
    unfold okI at h
    split at h
    · simp only [Bool.and_eq_true, decide_eq_true_eq] at h
      obtain ⟨⟨⟨⟨rfl, h1⟩, h2⟩, h3⟩, h4⟩ := h
      exact (so_enum (gl1 h2) (G.blts _ h1) (star_eq h3 _ _) (ds_of es G h4)).cg fun e => rfl
    · cases h
  | .zip es, X, W, tg, e, G, h => by
    unfold okI at h
    split at h
    · simp only [Bool.and_eq_true, decide_eq_true_eq] at h
      obtain ⟨⟨⟨⟨⟨rfl, h1⟩, h2⟩, h3⟩, h3'⟩, h4⟩ := h
      exact (so_zip (gl1 h2) (G.blts _ h1) (star_eq h3 _ _) (by rw [star_eq h3']; rfl) (ds_of es G h4)).cg fun e => rfl
    · cases h
end
/-- a comprehension's parts -/
theorem lcok_of {X : Cx} {W : WEx} {elt : E} {g : Tg} {it : I} {c : Ts} {own : List Nat} {el : Expr} {cm : Comprehension} {scope : Scope} {pos : Pos} (G : Good C O TB cr X W) (h : okE C X.env.scope (.lc elt g it c own) (.ListComp el [cm] scope pos) = true) :
    ∃ ps : List (Str × Nat), ps.map (·.2) = own ∧ ∃ tg iter ifs, cm = ⟨tg, iter, ifs, 0⟩ ∧ LcOk X TB W el tg iter ifs scope ps g (evI O it) (evTs O c) (ev O elt) := by
  unfold okE at h
  split at h
  · rename_i q0 e0
    cases e0
    split at h
    · rename_i ps hps
      simp only [Bool.and_eq_true, List.all_eq_true, decide_eq_true_eq] at h
      obtain ⟨⟨⟨⟨⟨⟨h1, h2⟩, h3⟩, h4⟩, h5⟩, h6⟩, h7⟩ := h
      have e0 := ownP_map hps
      exact ⟨ps, e0, _, _, _, rfl, LcOk.mk (X := X) (TB := TB) (W := W) (blkOk_by (by rw [G.hN]; exact h1)) (by rw [e0]; exact h3) (i_of it G h4) (fun s H Ca cl fp => g_of (X := X.blk s H _ (compEnvC _ cl Ca X.env) fp) G.hN G.nd G.calm (fun _ z => z) g h5)
          (fun s H Ca cl fp => c_of c (G.blk s H _ (compEnvC _ cl Ca X.env) fp) h6) (fun s H Ca cl fp => e_of elt (G.blk s H _ (compEnvC _ cl Ca X.env) fp) h7) (folded_set h2 _)⟩
    · cases h
  · cases h
end
end Wd
/-! Wd 18: statements, checked. -/
namespace Wd
open PySem PySem.Spec PyProof.Rows L2
/-! ### stores -/
theorem swp_no {e : Expr} (h : notComp e = true) (t : Option Expr) (l : Nat) (env : Env) : swapsWith e t l env = pure false := by
  cases e <;> first | rfl | cases h
theorem sole (t e : Expr) (l : Nat) (env : Env) : swapsWithSole [t] e l env = swapsWith e (some t) l env := rfl
/-- x = [..]: stored before the list is whole -/
def swLc (sc scope : Scope) (x : Str) (px pv : Pos) : Bool := (sc.names.lookup x == some .local) && (px.line == pv.line) && !(scope.names.any fun (n, k) => n == x && (k == .local || k == .cell))
theorem swLc_eq {elt : Expr} {gs : List Comprehension} {scope : Scope} {pos py : Pos} {y : Str} {l : Nat} {env : Env} (hk : env.scope.kind = .function) : swapsWith (.ListComp elt gs scope pos) (some (.Name y py)) l env = pure (swLc env.scope scope y py pos) := by
  have e : swapsWith (.ListComp elt gs scope pos) (some (.Name y py)) l env = pure (env.blockKind == .function && env.kindOf y == some .local && py.line == pos.line && !(scope.names.any fun (n, k) => n == y && (k == .local || k == .cell))) := rfl
  have hb : env.blockKind = .function := by unfold Env.blockKind; rw [hk]; rfl
  rw [e, hb]
  rfl
def swNames (ts : List Expr) (sc : Scope) : List Str := ts.filterMap fun
    | .Name id pos => if sc.names.lookup id == some .local && pos.line == (ts.head?.map (·.pos.line)).getD 0 then some id else none
    | _ => none
def swAns (ts vs : List Expr) (sc : Scope) : Option (Option (List Str)) :=
  if !(ts.length == 2 || ts.length == 3) || vs.length != ts.length then some none
  else if (vs.any fun | .Starred .. => true | _ => false) then some none
  else if (swNames ts sc).length != ts.length || (swNames ts sc).eraseDups.length != (swNames ts sc).length then some none
  else if vs.all (foldedForSure 8) then some none
  else if vs.all (constantsAlone 8) then none
  else some (some (swNames ts sc))
theorem swAns_ok {ts vs : List Expr} {env : Env} {k k2 : Nat} {p p2 : Pos} {r : Option (List Str)} (hk : env.scope.kind = .function) (h : swAns ts vs env.scope = some r) : swappedStores [.Tuple ts k p] (.Tuple vs k2 p2) env = pure r := by
  have hb : env.blockKind = .function := by unfold Env.blockKind; rw [hk]; rfl
  have e : swappedStores [.Tuple ts k p] (.Tuple vs k2 p2) env = (if !(ts.length == 2 || ts.length == 3) || vs.length != ts.length || env.blockKind != .function then pure none
    else if (vs.any fun | .Starred .. => true | _ => false) then pure none
    else if (swNames ts env.scope).length != ts.length || (swNames ts env.scope).eraseDups.length != (swNames ts env.scope).length then pure none
    else if vs.all (foldedForSure 8) then pure none
    else if vs.all (constantsAlone 8) then unsupported "assign.tuple-of-constant-expressions:order-of-the-stores"
    else pure (some (swNames ts env.scope))) := rfl
  rw [e, hb]
  unfold swAns at h
  have h0 : (ScopeKind.function != ScopeKind.function) = false := rfl
  rw [h0, Bool.or_false]
  split at h
  · rename_i c
    cases h
    rw [if_pos c]
  · rename_i c
    rw [if_neg c]
    split at h
    · rename_i c
      cases h
      rw [if_pos c]
    · rename_i c
      rw [if_neg c]
      split at h
      · rename_i c
        cases h
        rw [if_pos c]
      · rename_i c
        rw [if_neg c]
        split at h
        · rename_i c
          cases h
          rw [if_pos c]
        · rename_i c
          rw [if_neg c]
          split at h
          · cases h
          · rename_i c
            cases h
            rw [if_neg c]
/-- a, b, c = .. with plain local names -/
theorem so_par3 {X : Cx} {TB : TL} {W : WEx} {H0 : Hp} {M : Option Addr} {i j l : Nat} {x y z : Str} {a b c : Expr} {px py pz pt pos : Pos} {kt k2 : Nat} {pt2 : Pos} {fs : DEnv → R (List DV)} (hc : X.calm = true) (hN : X.N.Nodup) (hi : X.N[i]? = some x) (hj : X.N[j]? = some y) (hl : X.N[l]? = some z) (hij : i ≠ j) (hil : i ≠ l) (hjl : j ≠ l)
    (hx : X.env.scope.names.lookup x = some .local) (hy : X.env.scope.names.lookup y = some .local) (hz : X.env.scope.names.lookup z = some .local) (hw : swappedStores [.Tuple [.Name x px, .Name y py, .Name z pz] kt pt] (.Tuple [a, b, c] k2 pt2) X.env = pure (some [x, y, z]))
    (hm : 0 ∉ [i, j, l] ∨ M = none) (ha : SoV X TB W [a, b, c] fs) : SoS X TB W H0 M (.Assign [.Tuple [.Name x px, .Name y py, .Name z pz] kt pt] (.Tuple [a, b, c] k2 pt2) pos) (parF [i, j, l] fs) := by
  obtain ⟨t, p, s⟩ := ha
  refine ⟨_, ps_par3 hc hN hi hj hl hij hil hjl hx hy hz p hw, fun D σ H env i' k => ?_⟩
  show t σ H fun vs H1 => ∃ u v w, vs = [u, v, w] ∧ D.nx (((σ.set i (some u)).set j (some v)).set l (some w)) H1
  refine use_snd s i' k fun ds env1 vs H1 hfe e1 r i1 k1 => ?_
  cases hq : setAll [i, j, l] ds env1 with
  | none => rw [hq] at k1; exact k1.elim
  | some env2 =>
    rw [hq] at k1
    have hl := setAll_len hq
    have hv := r.length
    have fin := par_fin i' e1 r hm hq
    have h2 : vs.length = 3 := by rw [hv, ← hl]; rfl
    obtain ⟨u, v, w, e⟩ : ∃ u v w, vs = [u, v, w] := by
      match vs, h2 with
      | [u, v, w], _ => exact ⟨u, v, w, rfl⟩
    subst e
    exact ⟨u, v, w, rfl, k1 _ H1 (Stay.refl _) fin⟩
/-- a def's context -/
structure GoodS (C : CX) (O : Orc) (TB : TL) (cr : Nat → Addr) (X : Cx) (W : WEx) : Prop where
  g : Good C O TB cr X W
  fn : ∀ x, X.fn x = true
  po : PassesOwn (model X.prog X.w) X.A X.env X.xe
  kind : X.env.scope.kind = .function
  excs : ∀ (k : Nat) (x : Str), C.excs[k]? = some x → X.mg x = some (.ref (cr k)) ∧ PySem.W.keepIn X.K (.ref (cr k)) = true ∧ PySem.W.excIn X.K (cr k) He.veBase "ValueError.__new__" = true ∧ Raises X (.ref (cr k))
theorem listSub_assign {x : Str} {px psub : Pos} {ix : Expr} (h : notSl ix = true) (env : Env) (v : Value) : assign (.Subscript (.Name x px) ix psub) env v = (do
      let ov ← holding [v] (eval (.Name x px) env)
      let iv ← holding [v, ov] (eval ix env)
      standAt psub
      holding [v, ov, iv] (setItem ov iv v)
      release [v, ov, iv] []) := by
  cases ix <;> first | rfl | cases h
/-! ### the checker -/
def fT : Str → Bool := fun _ => true
def pos0 (mt : Bool) (is : List Nat) : Bool := !mt || decide (0 ∉ is)
mutual
/-- fresh values in a row -/
def okNs (C : CX) (sc : Scope) : List Nat → List Expr → Bool
  | [], es => es.isEmpty
  | i :: is, es => match es with
    | .Name x _ :: es => decide (C.N[i]? = some x) && locB sc fT x && okNs C sc is es
    | _ => false
end
def lcB (sc : Scope) (x : Str) : Bool := decide (sc.names.lookup x = some .local)
/-- a, b = ..: how it is stored -/
def okPar (C : CX) (sc : Scope) (is : List Nat) (ts vs : List Expr) : Bool := match swAns ts vs sc with
  | none => false
  | some none => okNs C sc is ts && stars ts && decide (is.length ≤ sizeLine)
  | some (some ns) => match is, ts with
    | [i, j], [.Name x _, .Name y _] => decide (ns = [x, y]) && decide (C.N[i]? = some x) && decide (C.N[j]? = some y) && decide (i ≠ j) && lcB sc x && lcB sc y
    | [i, j, l], [.Name x _, .Name y _, .Name z _] => decide (ns = [x, y, z]) && decide (C.N[i]? = some x) && decide (C.N[j]? = some y) && decide (C.N[l]? = some z) && decide (i ≠ j) && decide (i ≠ l) && decide (j ≠ l) && lcB sc x && lcB sc y && lcB sc z
    | _, _ => false
def isTup : Expr → Bool
  | .Tuple .. => true
  | _ => false
mutual
def okS (C : CX) (sc : Scope) (mt : Bool) : S → Stmt → Bool
  | .set i c, s => match s with
    | .Assign [.Name x px] e _ => decide (C.N[i]? = some x) && locB sc fT x && pos0 mt [i] && okE C sc c e && (notComp e || (match c, e with
      | .lc .., .ListComp _ [_] scope pv => true
      | _, _ => false))
    | _ => false
  | .par is es, s => match s with
    | .Assign [.Tuple ts _ _] (.Tuple vs _ _) _ => okPar C sc is ts vs && pos0 mt is && okEs C sc es vs
    | _ => false
  | .unp g c, s => match s with
    | .Assign [.Tuple ts k p] e _ => notComp e && !isTup e && pos0 mt (tgs g) && okG C sc fT g (.Tuple ts k p) && okE C sc c e
    | _ => false
  | .seti i ix c, s => match s with
    | .Assign [.Subscript (.Name x _) y _] e _ => decide (C.N[i]? = some x) && visB sc x && nmOk x && notSl y && notComp e && okE C sc ix y && okE C sc c e
    | _ => false
  | .app i c, s => match s with
    | .Expr (.Call (.Attribute (.Name x _) m pa) [e] [] pc) _ => decide (m = "append") && decide (C.N[i]? = some x) && visB sc x && nmOk x && notStar e && (pa.endLine == pc.line) && okE C sc c e
    | _ => false
  | .ext i c, s => match s with
    | .Expr (.Call (.Attribute (.Name x _) m pa) [e] [] pc) _ => decide (m = "extend") && decide (C.N[i]? = some x) && visB sc x && nmOk x && notStar e && (pa.endLine == pc.line) && okE C sc c e
    | _ => false
  | .expr c, s => match s with
    | .Expr e _ => notComp e && okE C sc c e
    | _ => false
  | .ifs c a b, s => match s with
    | .If t x y _ => okT C sc c t && okSs C sc mt a x && okSs C sc mt b y
    | _ => false
  | .fors g it body, s => match s with
    | .For tg iter ss [] _ => notSet iter && pos0 mt (tgs g) && okG C sc fT g tg && okI C sc it tg iter && okSs C sc mt body ss
    | _ => false
  | .whl c body, s => match s with
    | .While t ss [] _ => okT C sc c t && okSs C sc mt body ss
    | _ => false
  | .ret c, s => match s with
    | .Return (some e) _ => okE C sc c e
    | _ => false
  | .retn, s => match s with
    | .Return none _ => true
    | _ => false
  | .rais k, s => match s with
    | .Raise (some (.Call (.Name x _) [.Constant (.str _) _ _] [] _)) none _ => decide (C.excs[k]? = some x) && glB sc x && nmOk x
    | _ => false
  | .brk, s => match s with
    | .Break _ => true
    | _ => false
  | .cont, s => match s with
    | .Continue _ => true
    | _ => false
  | .pass, s => match s with
    | .Pass _ => true
    | _ => false
def okSs (C : CX) (sc : Scope) (mt : Bool) : Ss → List Stmt → Bool
  | .nil, ss => ss.isEmpty
  | .cons a b, ss => match ss with
    | s :: ss => okS C sc mt a s && okSs C sc mt b ss
    | _ => false
end
section
variable {C : CX} {O : Orc} {TB : TL} {cr : Nat → Addr}
theorem SoS.cg {X : Cx} {W : WEx} {H0 : Hp} {M : Option Addr} {s : Stmt} {f g : DEnv → R Fl} (h : SoS X TB W H0 M s f) (q : ∀ env, g env = f env) : SoS X TB W H0 M s g := (funext q : g = f) ▸ h
theorem SoB.cg {X : Cx} {W : WEx} {H0 : Hp} {M : Option Addr} {s : List Stmt} {f g : DEnv → R Fl} (h : SoB X TB W H0 M s f) (q : ∀ env, g env = f env) : SoB X TB W H0 M s g := (funext q : g = f) ▸ h
theorem SoV.cg {X : Cx} {W : WEx} {es : List Expr} {f g : DEnv → R (List DV)} (h : SoV X TB W es f) (q : ∀ env, g env = f env) : SoV X TB W es g := (funext q : g = f) ▸ h
/-- the list that a def may change is its first argument -/
def MOk (mt : Bool) (M : Option Addr) : Prop := mt = false → M = none
theorem pos0_ok {mt : Bool} {M : Option Addr} {is : List Nat} (h : pos0 mt is = true) (m : MOk mt M) : 0 ∉ is ∨ M = none := by
  cases mt with
  | false => exact .inr (m rfl)
  | true => exact .inl (by simpa [pos0] using h)
theorem vs_of : ∀ (es : Es) {X : Cx} {W : WEx} {vs : List Expr}, Good C O TB cr X W → okEs C X.env.scope es vs = true → SoV X TB W vs (evVs O es)
  | .nil, X, W, vs, G, h => by
    unfold okEs at h
    split at h
    · exact so_nilV.cg fun e => rfl
    · cases h
  | .cons a es, X, W, vs, G, h => by
    unfold okEs at h
    split at h
    · simp only [Bool.and_eq_true] at h
      exact (so_consV (star_eq h.1.1 _ _) (e_of a G h.1.2) (vs_of es G h.2)).cg fun e => rfl
    · cases h
theorem ns_of {X : Cx} {W : WEx} (G : GoodS C O TB cr X W) : ∀ (is : List Nat) {es : List Expr}, okNs C X.env.scope is es = true → SoNs X es is
  | [], [], h => so_nsnil
  | [], _ :: _, h => by
    unfold okNs at h
    cases h
  | i :: is, es, h => by
    unfold okNs at h
    split at h
    · simp only [Bool.and_eq_true, decide_eq_true_eq] at h
      exact so_nscons G.g.nd (by rw [G.g.hN]; exact h.1.1) (loc1 h.1.2).1 (.inl (G.fn _)) (ns_of G is h.2)
    · cases h
theorem ns_len {sc : Scope} : ∀ {is : List Nat} {es : List Expr}, okNs C sc is es = true → ∀ env : Env, (assignEach es env).length = is.length
  | [], [], h, env => rfl
  | [], _ :: _, h, env => by
    unfold okNs at h
    cases h
  | i :: is, es, h, env => by
    unfold okNs at h
    split at h
    · simp only [Bool.and_eq_true] at h
      show (assignEach _ env).length + 1 = is.length + 1
      rw [ns_len h.2]
    · cases h
theorem par_of {X : Cx} {W : WEx} {H0 : Hp} {M : Option Addr} {is : List Nat} {ts vs : List Expr} {k k2 : Nat} {p p2 pos : Pos} {fs : DEnv → R (List DV)} (G : GoodS C O TB cr X W) (h : okPar C X.env.scope is ts vs = true) (hm : 0 ∉ is ∨ M = none) (ha : SoV X TB W vs fs) : SoS X TB W H0 M (.Assign [.Tuple ts k p] (.Tuple vs k2 p2) pos) (parF is fs) := by
  unfold okPar at h
  split at h
  · cases h
  · rename_i q
    simp only [Bool.and_eq_true, decide_eq_true_eq] at h
    exact so_part G.g.calm (stars_asg h.1.2) (ns_len h.1.1 _) (swAns_ok G.kind q) rfl rfl hm h.2 (ns_of G is h.1.1) ha
  · rename_i ns q
    split at h
    · simp only [Bool.and_eq_true, decide_eq_true_eq, lcB] at h
      obtain ⟨⟨⟨⟨⟨rfl, h1⟩, h2⟩, h3⟩, h4⟩, h5⟩ := h
      rw [← G.g.hN] at h1 h2
      have e2 : ∃ a b, vs = [a, b] := by
        have q' := q
        unfold swAns at q'
        split at q'
        · cases q'
        · rename_i c
          match vs, c with
          | [], c => simp at c
          | [_], c => simp at c
          | [a, b], c => exact ⟨a, b, rfl⟩
          | _ :: _ :: _ :: _, c => simp at c
      obtain ⟨a, b, rfl⟩ := e2
      exact so_par2 G.g.calm G.g.nd h1 h2 h3 h4 h5 (swAns_ok G.kind q) rfl hm ha
    · simp only [Bool.and_eq_true, decide_eq_true_eq, lcB] at h
      obtain ⟨⟨⟨⟨⟨⟨⟨⟨⟨rfl, h1⟩, h2⟩, h3⟩, h4⟩, h5⟩, h6⟩, h7⟩, h8⟩, h9⟩ := h
      rw [← G.g.hN] at h1 h2 h3
      have e2 : ∃ a b c, vs = [a, b, c] := by
        have q' := q
        unfold swAns at q'
        split at q'
        · cases q'
        · rename_i c
          match vs, c with
          | [], c => simp at c
          | [_], c => simp at c
          | [_, _], c => simp at c
          | [a, b, d], c => exact ⟨a, b, d, rfl⟩
          | _ :: _ :: _ :: _ :: _, c => simp at c
      obtain ⟨a, b, c, rfl⟩ := e2
      exact so_par3 G.g.calm G.g.nd h1 h2 h3 h4 h5 h6 h7 h8 h9 (swAns_ok G.kind q) hm ha
    · cases h
mutual
theorem s_of : ∀ (a : S) {mt : Bool} {X : Cx} {W : WEx} {H0 : Hp} {M : Option Addr} {s : Stmt}, GoodS C O TB cr X W → MOk mt M → okS C X.env.scope mt a s = true → SoS X TB W H0 M s (exS O a)
  | .set i c, mt, X, W, H0, M, s, G, m, h => by
    unfold okS at h
    split at h
    · rename_i x0 px0 e0 ps0
      simp only [Bool.and_eq_true, decide_eq_true_eq] at h
      obtain ⟨⟨⟨⟨h1, h2⟩, h3⟩, h4⟩, h5⟩ := h
      rw [← G.g.hN] at h1
      have hm : i ≠ 0 ∨ M = none := (pos0_ok h3 m).imp (fun z e => z (by simp [e])) id
      rcases Bool.or_eq_true_iff.mp h5 with h5 | h5
      · exact (so_set G.g.nd h1 (loc1 h2).1 (.inl (G.fn _)) (swp_no h5 _ _ _) hm (e_of c G.g h4)).cg fun e => rfl
      · split at h5
        · rename_i elt g it cc own el cm scope pv _
          cases hsw : swLc X.env.scope scope _ _ pv with
          | false => exact (so_set G.g.nd h1 (loc1 h2).1 (.inl (G.fn _)) (by rw [swLc_eq G.kind, hsw]) hm (e_of _ G.g h4)).cg fun e => rfl
          | true =>
            have hlc : X.env.scope.names.lookup x0 = some .local := by
              have z := hsw
              simp only [swLc, Bool.and_eq_true] at z
              simpa using z.1.1
            obtain ⟨ps, e0, tg, iter, ifs, rfl, L⟩ := lcok_of G.g h4
            have z := so_setlc (H0 := H0) (spos := ps0) G.g.calm G.g.nd h1 hlc (by rw [swLc_eq G.kind, hsw]) hm L
            rw [e0] at z
            exact z.cg fun e => rfl
        · cases h5
    · cases h
  | .par is es, mt, X, W, H0, M, s, G, m, h => by
    unfold okS at h
    split at h
    · simp only [Bool.and_eq_true] at h
      exact (par_of G h.1.1 (pos0_ok h.1.2 m) (vs_of es G.g h.2)).cg fun e => rfl
    · cases h
  | .unp g c, mt, X, W, H0, M, s, G, m, h => by
    unfold okS at h
    split at h
    · simp only [Bool.and_eq_true, Bool.not_eq_true'] at h
      obtain ⟨⟨⟨⟨h1, h2⟩, h3⟩, h4⟩, h5⟩ := h
      exact (so_unp ((sole _ _ _ _).trans (swp_no h1 _ _ _)) (by rename_i e _; cases e <;> first | rfl | cases h2) rfl (pos0_ok h3 m) (g_of G.g.hN G.g.nd G.g.calm (fun x _ => G.fn x) g h4) (e_of c G.g h5)).cg fun e => rfl
    · cases h
  | .seti i ix c, mt, X, W, H0, M, s, G, m, h => by
    unfold okS at h
    split at h
    · simp only [Bool.and_eq_true, decide_eq_true_eq] at h
      obtain ⟨⟨⟨⟨⟨⟨h1, h2⟩, h3⟩, h4⟩, h5⟩, h6⟩, h7⟩ := h
      rw [← G.g.hN] at h1
      exact (so_seti h1 (vis1 h2) (nm1 h3).1 (nm1 h3).2 (listSub_assign h4 _) ((sole _ _ _ _).trans (swp_no h5 _ _ _)) rfl rfl (e_of ix G.g h6) (e_of c G.g h7)).cg fun e => rfl
    · cases h
  | .app i c, mt, X, W, H0, M, s, G, m, h => by
    unfold okS at h
    split at h
    · simp only [Bool.and_eq_true, decide_eq_true_eq] at h
      obtain ⟨⟨⟨⟨⟨⟨rfl, h1⟩, h2⟩, h3⟩, h4⟩, h5⟩, h6⟩ := h
      rw [← G.g.hN] at h1
      obtain ⟨t, p, sn⟩ := e_of c G.g h6
      exact (so_app h1 (vis1 h2) (nm1 h3).1 (nm1 h3).2 (star_eq h4 _ _) (pe_bm PySem.F.plainAttrs_list PySem.F.slot_list_append PySem.F.type_list_append mt_append (pe_var h1 (vis1 h2) (nm1 h3).1 (nm1 h3).2) (pa_cons (pe_gf (SoE.can ⟨t, p, sn⟩)) pa_nil (star_eq h4 _ _)) rfl (by rw [star_eq h4]; rfl) h5 (star_eq h4 _ _) rfl)).cg fun e => rfl
    · cases h
  | .ext i c, mt, X, W, H0, M, s, G, m, h => by
    unfold okS at h
    split at h
    · simp only [Bool.and_eq_true, decide_eq_true_eq] at h
      obtain ⟨⟨⟨⟨⟨⟨rfl, h1⟩, h2⟩, h3⟩, h4⟩, h5⟩, h6⟩ := h
      rw [← G.g.hN] at h1
      obtain ⟨t, p, sn⟩ := e_of c G.g h6
      exact (so_ext h1 (vis1 h2) (nm1 h3).1 (nm1 h3).2 (star_eq h4 _ _) (pe_bm PySem.F.plainAttrs_list PySem.F.slot_list_extend PySem.F.type_list_extend mt_extend (pe_var h1 (vis1 h2) (nm1 h3).1 (nm1 h3).2) (pa_cons (SoE.can ⟨t, p, sn⟩) pa_nil (star_eq h4 _ _)) rfl (by rw [star_eq h4]; rfl) h5 (star_eq h4 _ _) rfl)).cg fun e => rfl
    · cases h
  | .expr c, mt, X, W, H0, M, s, G, m, h => by
    unfold okS at h
    split at h
    · simp only [Bool.and_eq_true] at h
      exact (so_expr (swp_no h.1 _ _ _) (e_of c G.g h.2)).cg fun e => rfl
    · cases h
  | .ifs c a b, mt, X, W, H0, M, s, G, m, h => by
    unfold okS at h
    split at h
    · simp only [Bool.and_eq_true] at h
      exact (so_if (t_of c G.g h.1.1) (b_of a G m h.1.2) (b_of b G m h.2)).cg fun e => rfl
    · cases h
  | .fors g it body, mt, X, W, H0, M, s, G, m, h => by
    unfold okS at h
    split at h
    · simp only [Bool.and_eq_true] at h
      obtain ⟨⟨⟨⟨h1, h2⟩, h3⟩, h4⟩, h5⟩ := h
      exact (so_for G.g.calm G.po (folded_set h1 _) (pos0_ok h2 m) (g_of G.g.hN G.g.nd G.g.calm (fun x _ => G.fn x) g h3) (i_of it G.g h4) (b_of body G m h5)).cg fun e => rfl
    · cases h
  | .whl c body, mt, X, W, H0, M, s, G, m, h => by
    unfold okS at h
    split at h
    · simp only [Bool.and_eq_true] at h
      exact (so_whl G.po (t_of c G.g h.1) (b_of body G m h.2)).cg fun e => rfl
    · cases h
  | .ret c, mt, X, W, H0, M, s, G, m, h => by
    unfold okS at h
    split at h
    · exact (so_ret (e_of c G.g h)).cg fun e => rfl
    · cases h
  | .retn, mt, X, W, H0, M, s, G, m, h => by
    unfold okS at h
    split at h
    · exact so_retn.cg fun e => rfl
    · cases h
  | .rais k, mt, X, W, H0, M, s, G, m, h => by
    unfold okS at h
    split at h
    · simp only [Bool.and_eq_true, decide_eq_true_eq] at h
      obtain ⟨⟨h1, h2⟩, h3⟩ := h
      obtain ⟨e1, e2, e3, e4⟩ := G.excs _ _ h1
      exact (so_rais (k := k) G.g.calm G.g.tk (pmk_own PySem.F.excBase_ValueError e3 e1 e2 e4 (gl1 h2) (nm1 h3).1) fun σ H Q q => q).cg fun e => rfl
    · cases h
  | .brk, mt, X, W, H0, M, s, G, m, h => by
    unfold okS at h
    split at h
    · exact so_brk.cg fun e => rfl
    · cases h
  | .cont, mt, X, W, H0, M, s, G, m, h => by
    unfold okS at h
    split at h
    · exact so_ct.cg fun e => rfl
    · cases h
  | .pass, mt, X, W, H0, M, s, G, m, h => by
    unfold okS at h
    split at h
    · exact so_pass.cg fun e => rfl
    · cases h
theorem b_of : ∀ (a : Ss) {mt : Bool} {X : Cx} {W : WEx} {H0 : Hp} {M : Option Addr} {ss : List Stmt}, GoodS C O TB cr X W → MOk mt M → okSs C X.env.scope mt a ss = true → SoB X TB W H0 M ss (exSs O a)
  | .nil, mt, X, W, H0, M, [], G, m, h => so_bnil.cg fun e => rfl
  | .nil, mt, X, W, H0, M, _ :: _, G, m, h => by
    unfold okSs at h
    cases h
  | .cons a b, mt, X, W, H0, M, ss, G, m, h => by
    unfold okSs at h
    split at h
    · simp only [Bool.and_eq_true] at h
      exact (so_bcons (s_of a G m h.1) (b_of b G m h.2)).cg fun e => rfl
    · cases h
end
end
end Wd
/-! Wd 19: defs. -/
namespace Wd
open PySem PySem.Spec PyProof.Rows L2
/-! ### parameters -/
def plainPs (ps : List Str) (a : Arguments) : Bool := a.posonlyargs.isEmpty && a.kwonlyargs.isEmpty && a.vararg.isNone && a.kwarg.isNone && decide (a.args.map (·.arg) = ps)
theorem lookup_zip_some : ∀ {ps : List Str} {us : List Value}, us.length = ps.length → ∀ n ∈ ps, ((ps.zip us).lookup n).isSome = true
  | [], _, _, n, h => by cases h
  | p :: ps, [], hl, n, h => by cases hl
  | p :: ps, u :: us, hl, n, h => by
    rw [List.zip_cons_cons, List.lookup_cons]
    by_cases e : (n == p) = true
    · rw [e]
      rfl
    · rw [Bool.not_eq_true] at e
      rw [e]
      refine lookup_zip_some (by simpa using hl) n ?_
      rcases List.mem_cons.mp h with rfl | h
      · rw [beq_self_eq_true] at e
        cases e
      · exact h
theorem lookup_zip_all : ∀ {ps : List Str} {us : List Value} (pre : List (Str × Value)), us.length = ps.length → ps.Nodup → (∀ n ∈ ps, pre.lookup n = none) → ps.filterMap (fun n => ((pre ++ ps.zip us).lookup n).map (n, ·)) = ps.zip us
  | [], [], _, _, _, _ => rfl
  | [], _ :: _, _, hl, _, _ => by cases hl
  | p :: ps, [], _, hl, _, _ => by cases hl
  | p :: ps, u :: us, pre, hl, nd, hp => by
    have e0 : (pre ++ (p :: ps).zip (u :: us)).lookup p = some u := by
      rw [List.lookup_append, hp p List.mem_cons_self, List.zip_cons_cons, List.lookup_cons, beq_self_eq_true]
      rfl
    rw [List.filterMap_cons, e0]
    dsimp only [Option.map]
    rw [List.zip_cons_cons]
    refine congrArg _ ?_
    have ih := lookup_zip_all (us := us) (pre ++ [(p, u)]) (by simpa using hl) (List.nodup_cons.mp nd).2 (fun n hn => by
      rw [List.lookup_append, hp n (List.mem_cons_of_mem _ hn)]
      have : (n == p) = false := beq_eq_false_iff_ne.mpr fun e => (List.nodup_cons.mp nd).1 (e ▸ hn)
      simp [List.lookup_cons, this])
    refine Eq.trans (congrArg (fun z => List.filterMap z ps) (funext fun n => ?_)) ih
    rw [List.append_assoc]
    rfl
theorem bind_plain {ps : List Str} {x qual : Str} {params : Arguments} {body : List Stmt} {scope : Scope} {kV doc pm : Value} {an : Option Addr} {cdv ct : Value} {us : List Value} (h : plainPs ps params = true) (nd : ps.Nodup) (hl : us.length = ps.length) :
    bindArgs (PySem.W.fnOf x qual params body scope .none kV doc pm an cdv ct) ⟨us, []⟩ = pure (ps.zip us) := by
  obtain ⟨po, as, va, ko, kd, kw, df⟩ := params
  simp only [plainPs, Bool.and_eq_true, List.isEmpty_iff, Option.isNone_iff_eq_none, decide_eq_true_eq] at h
  obtain ⟨⟨⟨⟨rfl, rfl⟩, rfl⟩, rfl⟩, rfl⟩ := h
  have hm : ((as.map (·.arg)).filter fun n => (((as.map (·.arg)).zip us).lookup n).isNone) = [] := by
    rw [List.filter_eq_nil_iff]
    intro n hn
    have := lookup_zip_some hl n hn
    cases q : ((as.map (·.arg)).zip us).lookup n with
    | none => rw [q] at this; cases this
    | some _ => simp
  have hf := lookup_zip_all [] hl nd (fun _ _ => rfl)
  rw [List.nil_append] at hf
  have hs : seqItems? Value.none = pure none := rfl
  unfold bindArgs
  dsimp only [PySem.W.fnOf]
  simp only [hs, pure_bind, List.map_nil, List.nil_append, List.append_nil, List.forIn_nil, Option.getD_none, List.drop_nil, List.zip_nil_right, List.length_nil, Nat.sub_zero, List.take_length, hm, List.isEmpty_nil, hf]
  simp [hl, hm, hf]
/-! ### a def keeps what the interpreter tells -/
/-- a def of the law's text -/
structure Df where
  gn : Str
  fi : FI
  st : Stmt
def kindB (sc : Scope) : Bool := match sc.kind with
  | .function => true
  | _ => false
def scopeB (N P : List Str) (sc : Scope) : Bool := kindB sc && !sc.isCoroutine && !sc.isGenerator && decide N.Nodup && decide (N.take P.length = P) && P.all (fun x => locB sc fT x) && sc.names.all fun y => decide (y.2 ≠ .free)
theorem scope_ok {N P : List Str} {sc : Scope} (h : scopeB N P sc = true) : FnScope N P sc := by
  simp only [scopeB, Bool.and_eq_true, Bool.not_eq_true', decide_eq_true_eq, List.all_eq_true] at h
  obtain ⟨⟨⟨⟨⟨⟨h1, h2⟩, h3⟩, h4⟩, h5⟩, h6⟩, h7⟩ := h
  refine ⟨?_, h2, h3, h4, h5, fun x hx => (loc1 (h6 x hx)).1, h7⟩
  unfold kindB at h1
  split at h1
  · assumption
  · cases h1
/-- the module's names that the defs use -/
structure Mo where
  fs : List Df
  blts : List Str
  glos : List (Str × PyData)
  excs : List Str
def Mo.cx (m : Mo) (N : List Str) : CX := { N := N, fns := m.fs.map fun (d : Df) => (d.gn, d.fi.ps.length), blts := m.blts, glos := m.glos.map (·.1), excs := m.excs }
def Mo.tb (m : Mo) : List FI := m.fs.map (·.fi)
def Mo.gl (m : Mo) : List PyData := m.glos.map (·.2)
def Mo.cf (m : Mo) : Nat → Nat → List DV → CA := callF m.tb m.gl
def Df.ok (m : Mo) (d : Df) : Bool := scopeB d.fi.N d.fi.ps (defScope d.st) && plainPs d.fi.ps (defArgs d.st) && okSs (m.cx d.fi.N) (defScope d.st) d.fi.mut0 d.fi.body (defBody d.st)
def Mo.ok (m : Mo) : Bool := m.fs.all (Df.ok m)
/-- what stands in the heap -/
structure Know (K : PySem.W.Frag) (mg : Str → Option Value) (m : Mo) (cr : Nat → Addr) : Prop where
  fn : ∀ (i : Nat) (d : Df), m.fs[i]? = some d → ∃ (f : Addr) (fd : FuncData), FunD K d.fi.name d.fi.name (defArgs d.st) (defBody d.st) (defScope d.st) [] [] f fd ∧ mg d.gn = some (.ref f)
  blt : ∀ x ∈ m.blts, mg x = none
  glo : ∀ (k : Nat) (x : Str) (d : PyData), m.glos[k]? = some (x, d) → ∃ (v : V) (u : Value), mg x = some u ∧ RelV v u ∧ ∀ H, Fz K H v d
  exc : ∀ (k : Nat) (x : Str), m.excs[k]? = some x → mg x = some (.ref (cr k)) ∧ PySem.W.keepIn K (.ref (cr k)) = true ∧ PySem.W.excIn K (cr k) He.veBase "ValueError.__new__" = true ∧ PySem.W.subIn K (.ref (cr k)) (.type "BaseException") = some true ∧ PySem.W.typeIn K (.ref (cr k)) = some (.type "type")
theorem rvs_get {K : PySem.W.Frag} {H : Hp} : ∀ {vs : List V} {ds : List DV}, RVs K H vs ds → ∀ (i : Nat) (d : DV), ds[i]? = some d → ∃ v, vs[i]? = some v ∧ RV K H v d
  | _, _, .nil, i, d, h => by simp at h
  | _, _, .cons h r, 0, d, e => by
    cases e
    exact ⟨_, rfl, h⟩
  | _, _, .cons h r, i + 1, d, e => rvs_get r i d e
def env0 (N : List Str) (ds : List DV) : DEnv := ds.map some ++ List.replicate (N.length - ds.length) none
theorem env0_get {N : List Str} {ds : List DV} {i : Nat} {d : DV} (h : (env0 N ds)[i]? = some (some d)) : ds[i]? = some d := by
  unfold env0 at h
  by_cases hi : i < ds.length
  · rw [List.getElem?_append_left (by simpa using hi), List.getElem?_map, Option.map_eq_some_iff] at h
    obtain ⟨a, h1, h2⟩ := h
    cases h2
    exact h1
  · rw [List.getElem?_append_right (by simpa using hi), List.getElem?_replicate] at h
    split at h <;> cases h
theorem start_get {N : List Str} {vs : List V} {i : Nat} {v : V} (h : vs[i]? = some v) : (L2.start N vs)[i]? = some (some v) := by
  have hi := (List.getElem?_eq_some_iff.mp h).1
  unfold L2.start
  rw [List.getElem?_append_left (by simpa using hi), List.getElem?_map, h]
  rfl
/-- an own list among the arguments: the first one -/
theorem argOk_own {m : Bool} {ds : List DV} (h : argOk m ds = true) {i : Nat} {xs : List PyData} (e : ds[i]? = some (DV.own xs)) : i = 0 ∧ m = true := by
  cases ds with
  | nil => simp at e
  | cons d r =>
    have tail : (r.all fun v => match v with | .d _ => true | .own _ => false) = true → ∀ j, r[j]? = some (DV.own xs) → False := fun h j q => by
      have := List.all_eq_true.mp h _ (List.mem_of_getElem? q)
      cases this
    cases d with
    | d x =>
      simp only [argOk, Bool.and_eq_true] at h
      cases i with
      | zero => cases e
      | succ j => exact (tail h.2 j e).elim
    | own ys =>
      simp only [argOk, Bool.and_eq_true] at h
      cases i with
      | zero => exact ⟨rfl, h.1⟩
      | succ j => exact (tail h.2 j e).elim
theorem argOk_head {ds : List DV} (h : argOk true ds = true) : ∃ xs, ds.head? = some (DV.own xs) := by
  cases ds with
  | nil => cases h
  | cons d r =>
    cases d with
    | d x => cases h
    | own ys => exact ⟨ys, rfl⟩
section
variable {P : Program} {w : World} {K : PySem.W.Frag} {mg : Str → Option Value} {base : Heap} {m : Mo} {cr : Nat → Addr} {TB : TL}
theorem si_start {N : List Str} {mt : Bool} {H : Hp} {vs : List V} {ds : List DV} (hN : ds.length ≤ N.length) (r : RVs K H vs ds) (ok : argOk mt ds = true) (t : LamX.Tabs TB H) :
    ∃ M : Option Addr, MOk mt M ∧ (∀ a, M = some a → mt = true ∧ vs.head? = some (V.ref a)) ∧ (mt = true → ∃ a, M = some a) ∧ SI K TB H M (L2.start N vs) H (env0 N ds) := by
  have rep : RepE K TB H (L2.start N vs) (env0 N ds) := by
    refine ⟨by simp only [env0, L2.start, List.length_append, List.length_map, List.length_replicate, r.length], fun i v q => ?_, fun i j xs ys a q1 q2 _ _ => ?_, t⟩
    · obtain ⟨x, h1, h2⟩ := rvs_get r i v (env0_get q)
      exact ⟨x, start_get h1, h2⟩
    · rw [(argOk_own ok (env0_get q1)).1, (argOk_own ok (env0_get q2)).1]
  cases mt with
  | false =>
    refine ⟨none, fun _ => rfl, fun a e => (nomatch e), fun e => (nomatch e), rep, Ext.refl, fun b z => z, fun b z => ?_, fun a e => (nomatch e)⟩
    obtain ⟨i, xs, q1, _⟩ := z
    cases (argOk_own ok (env0_get q1)).2
  | true =>
    obtain ⟨xs, hx⟩ := argOk_head ok
    have h0 : ds[0]? = some (DV.own xs) := by rw [← List.head?_eq_getElem?]; exact hx
    obtain ⟨v, h1, a, ws, rfl, h2, h3⟩ := rvs_get r 0 _ h0
    refine ⟨some a, fun e => (nomatch e), fun b e => ⟨rfl, by cases e; rw [List.head?_eq_getElem?]; exact h1⟩, fun _ => ⟨a, rfl⟩, rep, Ext.refl, fun b z => z, fun b z => .inr ?_, fun b e => ?_⟩
    · obtain ⟨i, ys, q1, q2⟩ := z
      obtain ⟨rfl, _⟩ := argOk_own ok (env0_get q1)
      have := start_get (N := N) h1
      rw [this] at q2
      cases q2
      rfl
    · cases e
      exact start_get h1
theorem exs_nomut {K : PySem.W.Frag} {H : Hp} {Mo : Option Addr} (h : Mo = none) {H' : Hp} (x : Ext (fun b => Mo = some b) H H') : Ext (fun _ => False) H H' := x.mono fun c z => by rw [h] at z; cases z
/-- all defs, to a depth -/
theorem fn_all (hk : Know K mg m cr) (hm : m.ok = true) (kin : K.In base) (hns : base.Ns mainGlobals mg) : ∀ (n i : Nat) (d : Df), m.fs[i]? = some d → ∀ f fd, FunD K d.fi.name d.fi.name (defArgs d.st) (defBody d.st) (defScope d.st) [] [] f fd → mg d.gn = some (.ref f) →
    FnG P w K mg base n f fd d.fi.ps (spF K TB cr d.fi.ps.length (m.cf n i))
  | 0, i, d, hi, f, fd, F, hg => ⟨fun vs H Q E h => h.1, fun A outer s H args us vs Q E _ _ _ _ _ h => by
      obtain ⟨_, ds, _, _, h⟩ := h
      exact h.elim⟩
  | n + 1, i, d, hi, f, fd, F, hg => by
    have ih := fn_all hk hm kin hns n
    have ho : d.ok m = true := List.all_eq_true.mp hm d (List.mem_of_getElem? hi)
    simp only [Df.ok, Bool.and_eq_true] at ho
    obtain ⟨⟨o1, o2⟩, o3⟩ := ho
    have S := scope_ok o1
    have hpl : d.fi.ps.length ≤ d.fi.N.length := by have := congrArg List.length S.pre; rw [List.length_take] at this; omega
    have hF : Fun K d.fi.name d.fi.name d.st f fd := by
      obtain ⟨oc, od, dV, kV, doc, pm, an, cdv, ct, osl, e1, e2, e3, e4, e5⟩ := F.ex
      rcases e4 with ⟨_, rfl⟩ | ⟨z, _⟩
      · exact ⟨⟨oc, od, kV, doc, pm, an, cdv, ct, osl, e1, e2, e3⟩, F.kp⟩
      · exact absurd rfl z
    have tbi : m.tb[i]? = some d.fi := by
      unfold Mo.tb
      rw [List.getElem?_map, hi]
      rfl
    refine fng_of hF S (fun vs H Q E h => h.1) fun cdv A outer s H vs Q E hr hg' h => ?_
    obtain ⟨hl, ds, rv, tb, h⟩ := h
    have ecf : m.cf (n + 1) i ds = runF { cf := m.cf n, glo := m.gl } d.fi ds := by
      show (match m.tb[i]? with
        | some F => runF { cf := callF m.tb m.gl n, glo := m.gl } F ds
        | none => CA.bad) = _
      rw [tbi]
      rfl
    rw [ecf] at h
    unfold runF at h
    by_cases hc : ds.length = d.fi.ps.length ∧ argOk d.fi.mut0 ds = true
    case neg =>
      rw [if_neg hc] at h
      exact h.elim
    rw [if_pos hc] at h
    obtain ⟨hc1, hc2⟩ := hc
    obtain ⟨M, m1, m2, m3, si⟩ := si_start (N := d.fi.N) (by rw [hc1]; exact hpl) rv hc2 tb
    have G : GoodS (m.cx d.fi.N) { cf := m.cf n, glo := m.gl } TB cr (cxOf (L2.CX P w) P w K mg base d.fi.N d.fi.name (defScope d.st) f cdv A outer s H E) (fun k d H => E (.ref (cr k)) d H) := by
      refine ⟨⟨rfl, S.nd, rfl, hg', by have := hr.un; exact Nat.lt_of_le_of_lt (Nat.add_le_add_left (by omega : 65 ≤ 16 * n + 200) _) (by rw [← Nat.add_assoc]; exact this), hk.blt, fun j x c hj => ?_, fun j x hj => ?_, ?_⟩, fun _ => rfl, passes_of rfl, S.kind, fun j x hj => ?_⟩
      · simp only [Mo.cx, List.getElem?_map, Option.map_eq_some_iff] at hj
        obtain ⟨d', hd, he⟩ := hj
        cases he
        obtain ⟨f', fd', F', hg2⟩ := hk.fn j d' hd
        have ho' : d'.ok m = true := List.all_eq_true.mp hm d' (List.mem_of_getElem? hd)
        simp only [Df.ok, Bool.and_eq_true] at ho'
        have S' := scope_ok ho'.1.1
        have nd' : d'.fi.ps.Nodup := by
          have := S'.pre
          rw [← this]
          exact S'.nd.sublist (List.take_sublist _ _)
        exact ⟨n, f', fd', d'.fi.ps, ih j d' hd f' fd' F' hg2, hr, F'.bindsN fun _ _ _ _ _ _ us hl => bind_plain ho'.1.2 nd' hl, hg2, F'.kp⟩
      · simp only [Mo.cx, List.getElem?_map, Option.map_eq_some_iff] at hj
        obtain ⟨⟨x', d'⟩, hd, rfl⟩ := hj
        obtain ⟨v, u, e1, e2, e3⟩ := hk.glo j x' d' hd
        exact ⟨d', v, u, by simp only [Mo.gl, List.getElem?_map, hd]; rfl, e1, e2, e3⟩
      · exact (takes_of rfl rfl rfl rfl).imp fun c dd σ H ⟨k, e1, e2⟩ => by rw [e1]; exact e2
      · obtain ⟨e1, e2, e3, e4, e5⟩ := hk.exc j x hj
        exact ⟨e1, e2, e3, raises_own e4 e5⟩
    obtain ⟨t, p, st⟩ := b_of (H0 := H) (M := M) d.fi.body G m1 o3
    refine ⟨t, p, st _ _ _ _ si ?_⟩
    have fin : ∀ (v : DV) (e : DEnv) (x : V) (σ' : L2.St) (H' : Hp), (match finR d.fi.mut0 v e with
        | .ok v none => ∀ x H', Ext (fun _ => False) H H' → (∀ b, H' b = none → H b = none) → LamX.Tabs TB H' → RN K H H' x v → Q x H'
        | .ok v (some zs) => ∃ a ys, vs.head? = some (V.ref a) ∧ ds.head? = some (DV.own ys) ∧ ∀ x H' ws, Ext (fun b => b = a) H H' → (∀ b, H' b = none → H b = none) → LamX.Tabs TB H' → H' a = some (.lst ws) → FzAll K H' ws zs → RN K H H' x v → Q x H'
        | .exc k => ∀ d H', Ext (fun _ => False) H H' → LamX.Tabs TB H' → E (.ref (cr k)) d H'
        | .bad => False) → SI K TB H M σ' H' e → RN K H H' x v → Q x H' := by
      intro v e x σ' H' h i rn
      unfold finR at h
      cases hmt : d.fi.mut0 with
      | false =>
        rw [hmt] at h
        exact h x H' (i.ext.mono fun c z => by rw [m1 hmt] at z; cases z) i.gone i.rep.tabs rn
      | true =>
        rw [hmt] at h
        cases he : (e[0]? : Option (Option DV)) with
        | none => rw [he] at h; exact h.elim
        | some o =>
          rw [he] at h
          cases o with
          | none => exact h.elim
          | some dv =>
            cases dv with
            | d y => exact h.elim
            | own zs =>
              obtain ⟨a, ys, q1, q2, q3⟩ := h
              obtain ⟨y, hy, b, ws, rfl, h1, h2⟩ := i.rep.at_ 0 _ he
              obtain ⟨a', ha'⟩ := m3 hmt
              have z := (m2 a' ha').2
              rw [q1] at z
              cases z
              have z2 := i.m a ha'
              rw [hy] at z2
              cases z2
              exact q3 x H' ws (i.ext.mono fun c z => by rw [ha'] at z; cases z; rfl) i.gone i.rep.tabs h1 h2 rn
    have en : env0 d.fi.N ds = ds.map some ++ List.replicate (d.fi.N.length - ds.length) none := rfl
    rw [← en] at h
    cases hx : exSs { cf := m.cf n, glo := m.gl } d.fi.body (env0 d.fi.N ds) with
    | bad => rw [hx] at h; exact h.elim
    | exc k =>
      rw [hx] at h
      dsimp only at h
      cases hmt : d.fi.mut0 with
      | true => rw [hmt] at h; exact h.elim
      | false =>
        rw [hmt] at h
        exact fun dd H' x t => h dd H' (x.mono fun c z => by rw [m1 hmt] at z; cases z) t
    | ok fl e =>
      rw [hx] at h
      cases fl with
      | nx => exact fun σ' H' _ i => fin (.d .none) e .non σ' H' h i .non
      | brk => exact h.elim
      | ct => exact h.elim
      | ret v => exact fun x σ' H' i rv => fin v e x σ' H' h i (by cases v <;> exact rv)
end
end Wd
/-! Wd 20: the end of a law. -/
namespace Wd
open PySem L2 PyProof.Rows PySem.Spec
/-- the script's object -/
abbrev lstO (us : List Value) : Obj := { cls := .type "list", data := .seq us.toArray }
/-- an empty table of a code object -/
abbrev tabO : Obj := { cls := .none, data := .fields #[] }
open Classical in
/-- what is tracked when the law begins: the tables, and the script if the module has it not -/
noncomputable def H00 (K : PySem.W.Frag) (cs : List (Addr × Addr)) (a : Addr) (us : List Value) (ns : List Int) : Hp := fun b =>
  if ∃ p ∈ cs, p.2 = b then some (.tbl #[]) else if b = a ∧ K.lookup a = none then some (.frz (lstO us) (.lst (ns.map V.int))) else none
inductive HKind (K : PySem.W.Frag) (cs : List (Addr × Addr)) (a : Addr) (us : List Value) (ns : List Int) (b : Addr) : Prop where
  | no (h : H00 K cs a us ns b = none)
  | tab (p : Addr × Addr) (hp : p ∈ cs) (e : p.2 = b) (h : H00 K cs a us ns b = some (.tbl #[]))
  | scr (e : b = a) (k : K.lookup a = none) (h : H00 K cs a us ns b = some (.frz (lstO us) (.lst (ns.map V.int))))
section
variable {P : Program} {w : World} {K : PySem.W.Frag} {mg mb : Str → Option Value} {k : Nat} {fa a : Addr} {cs : List (Addr × Addr)} {s1 : Shared} {us : List Value} {ns : List Int}
theorem hkind (b : Addr) : HKind K cs a us ns b := by
  by_cases h1 : ∃ p ∈ cs, p.2 = b
  · obtain ⟨p, hp, e⟩ := h1
    exact .tab p hp e (by unfold H00; rw [if_pos ⟨p, hp, e⟩])
  · by_cases h2 : b = a ∧ K.lookup a = none
    · exact .scr h2.1 h2.2 (by unfold H00; rw [if_neg h1, if_pos h2])
    · exact .no (by unfold H00; rw [if_neg h1, if_neg h2])
theorem h00_tab {p : Addr × Addr} (hp : p ∈ cs) : H00 K cs a us ns p.2 = some (.tbl #[]) := by
  unfold H00
  rw [if_pos ⟨p, hp, rfl⟩]
/-- what the heap has at the law's entry -/
structure Entry (K : PySem.W.Frag) (mg mb : Str → Option Value) (cs : List (Addr × Addr)) (a : Addr) (us : List Value) (ns : List Int) (s1 : Shared) : Prop where
  kin : K.In s1.heap
  gl : s1.heap.Ns mainGlobals mg
  bl : s1.heap.Ns builtinsNs mb
  bb : ∀ x : Str, x ≠ "__name__" → mb x = bootBuiltins x
  lim : s1.heap.NoLimit
  gens : s1.gens = #[]
  tab : ∀ p ∈ cs, s1.heap.get? p.2 = some tabO
  out : ∀ p ∈ cs, K.lookup p.2 = none
  code : ∀ p ∈ cs, PySem.W.CodeHd s1.heap p.1 p.2
  bmod : ∃ (bm : Addr) (ob : Obj), mg "__builtins__" = some (.ref bm) ∧ bm ≠ builtinsNs ∧ s1.heap.get? bm = some ob ∧ ob.cls = .type "module" ∧ ob.dict = some builtinsNs ∧ ob.data = .plain
  scr : s1.heap.get? a = some (lstO us)
  inums : IntsAre us ns
  few : ns.length ≤ sizeLine
theorem Entry.loose (E : Entry K mg mb cs a us ns s1) {b : Addr} {o : Obj} (q : s1.heap.get? b = some o) (h1 : ∀ x n, o.data ≠ .seq x n) (h2 : o.data ≠ .fields #[]) : H00 K cs a us ns b = none := by
  cases hkind (K := K) (cs := cs) (a := a) (us := us) (ns := ns) b with
  | no h => exact h
  | tab p hp e h =>
    have t := E.tab p hp
    rw [e, q] at t
    cases t
    exact absurd rfl h2
  | scr e k h =>
    rw [e, E.scr] at q
    cases q
    exact absurd rfl (h1 _ _)
theorem Entry.nsp (E : Entry K mg mb cs a us ns s1) {b : Addr} {m : Str → Option Value} (h : s1.heap.Ns b m) : (hidT s1.heap (H00 K cs a us ns)).Ns b m := by
  obtain ⟨o, es, ep, q, d, r⟩ := h
  refine ⟨o, es, ep, hidT_get q (E.loose q ?_ ?_), d, r⟩
  · intro x n z
    rw [d] at z
    cases z
  · intro z
    rw [d] at z
    cases z
theorem Entry.kin' (E : Entry K mg mb cs a us ns s1) : K.In (hidT s1.heap (H00 K cs a us ns)) := by
  intro b o q
  refine hidT_get (E.kin b o q) ?_
  cases hkind (K := K) (cs := cs) (a := a) (us := us) (ns := ns) b with
  | no h => exact h
  | tab p hp e h =>
    have t := E.out p hp
    rw [e, q] at t
    cases t
  | scr e k h =>
    rw [e, k] at q
    cases q
theorem Entry.hok (E : Entry K mg mb cs a us ns s1) : HOk P w (H00 K cs a us ns) s1.heap := by
  intro b u q
  cases hkind (K := K) (cs := cs) (a := a) (us := us) (ns := ns) b with
  | no h =>
    rw [h] at q
    cases q
  | tab p hp e h =>
    rw [h] at q
    cases q
    have t := E.tab p hp
    rw [e] at t
    exact t
  | scr e k h =>
    rw [h] at q
    cases q
    rw [e]
    exact ⟨E.scr, by rw [List.length_map]; exact E.few, us, _, L2.vals_ints E.inums, E.scr⟩
theorem Entry.env (E : Entry K mg mb cs a us ns s1) : Env0 P w K mg (hidT s1.heap (H00 K cs a us ns)) callerA [] s1 (H00 K cs a us ns) := by
  obtain ⟨mc, l1, l2⟩ := E.lim
  refine ⟨rfl, ⟨E.kin', E.nsp E.gl, ⟨mb, E.nsp E.bl, E.bb⟩, mc, E.nsp l1, l2⟩, fun b o q => of_hidT q, Nat.le_of_eq (hidT_size _ _), trivial, fun b hb => ?_, E.hok, .of_eq E.gens⟩
  cases hb
theorem Entry.tabB (E : Entry K mg mb cs a us ns s1) {p : Addr × Addr} (hp : p ∈ cs) : LamX.TabB (hidT s1.heap (H00 K cs a us ns)) mg p.1 p.2 := by
  have t := E.tab p hp
  refine ⟨?_, ?_, ?_⟩
  · obtain ⟨o, vs, file, tf, flags, tg, inF, text, tt, e1, r1, r2, r3, r⟩ := E.code p hp
    refine ⟨o, vs, file, tf, flags, tg, inF, text, tt, hidT_get e1 (E.loose e1 ?_ ?_), r1, r2, r3, r⟩
    · intro x n z
      rw [r2] at z
      cases z
    · intro z
      rw [r2] at z
      cases z
      simp at r3
  · obtain ⟨bm, ob, b1, b2, b3, b4, b5, b6⟩ := E.bmod
    refine ⟨bm, ob, b1, b2, ?_, ?_, hidT_get b3 (E.loose b3 ?_ ?_), b4, b5, b6⟩
    · intro z
      obtain ⟨o, es, ep, q, d, _⟩ := E.gl
      rw [← z, b3] at q
      cases q
      rw [b6] at d
      cases d
    · intro z
      rw [z, t] at b3
      cases b3
      cases b6
    · intro x n z
      rw [b6] at z
      cases z
    · intro z
      rw [b6] at z
      cases z
  · intro z
    obtain ⟨o, es, ep, q, d, _⟩ := E.gl
    rw [z, t] at q
    cases q
    cases d
theorem fz_ints {H : Hp} : ∀ ns : List Int, FzAll K H (ns.map V.int) (ns.map PyData.int)
  | [] => .nil
  | n :: r => .cons (.int n) (fz_ints r)
/-- the script, as the law's argument -/
theorem Entry.arg (E : Entry K mg mb cs a us ns s1) : Fz K (H00 K cs a us ns) (.ref a) (.list (ns.map .int)) := by
  cases hk : K.lookup a with
  | some o =>
    have q := E.kin a o hk
    rw [E.scr] at q
    cases q
    exact .lstK (its := us.toArray) (n := 0) hk rfl rfl rfl (by rw [List.size_toArray, E.inums.length]; exact E.few) (by simpa using L2.vals_ints E.inums) (fz_ints ns)
  | none =>
    cases hkind (K := K) (cs := cs) (a := a) (us := us) (ns := ns) a with
    | no h =>
      unfold H00 at h
      split at h
      · cases h
      · rw [if_pos ⟨rfl, hk⟩] at h
        cases h
    | tab p hp e h =>
      have t := E.tab p hp
      rw [e, E.scr] at t
      cases congrArg Obj.data (Option.some.inj t)
    | scr e k h => exact .lst h (fz_ints ns)
/-- the law, called by the judge's caller -/
theorem law_run {fd : FuncData} {x : Str} {sp : Sp} (E : Entry K mg mb cs a us ns s1) (hr : Room k callerA)
    (F : ∀ base : Heap, K.In base → base.Ns mainGlobals mg → (∀ p ∈ cs, LamX.TabB base mg p.1 p.2) → FnG P w K mg base k fa fd [x] sp) (hb : ∀ (s : Shared) (u : Value), BindsTo s fd ⟨[u], []⟩ [(x, u)])
    (hsp : ∀ H : Hp, (∀ p ∈ cs, H p.2 = some (.tbl #[])) → Fz K H (.ref a) (.list (ns.map .int)) → sp [.ref a] H (fun v _ => v = .bl true) fun _ _ _ => False) :
    codeAny (model P w) callerA (.call (.ref fa) ⟨[.ref a], []⟩) (fun r s2 => r = .ok (.ret (.bool true)) ∧ OldK s1.heap s2.heap ∧ s2.os = s1.os ∧ AllBare s2.gens) s1 := by
  have run := (F _ E.kin' (E.nsp E.gl) (fun p hp => E.tabB hp)).run callerA [] s1 _ ⟨[.ref a], []⟩ [.ref a] [.ref a] _ _ hr rfl E.env (hb s1 (.ref a)) (.cons rfl .nil) (hsp _ (fun p hp => h00_tab hp) E.arg)
  refine codeAny_mono run fun r s2 h => ?_
  cases r with
  | error e =>
    obtain ⟨_, _, _, _, _, _, _, _, _, _, _, _, z⟩ := h
    exact z.elim
  | ok fl =>
    cases fl with
    | next => exact h.elim
    | brk => exact h.elim
    | cont => exact h.elim
    | ret u =>
      obtain ⟨v, H', os, bare, un, ok, rv, q⟩ := h
      have qv : v = V.bl true := q
      rw [qv] at rv
      have eu : u = Value.bool true := rv
      have same : ∀ b o, s1.heap.get? b = some o → (∃ p ∈ cs, p.2 = b ∧ ∃ more : Array Value, s2.heap.get? b = some { cls := .none, data := .fields more }) ∨ s2.heap.get? b = some o := by
        intro b o e
        cases hkind (K := K) (cs := cs) (a := a) (us := us) (ns := ns) b with
        | no h => exact .inr (un.keep b o e h (by intro z; cases z) (by intro z; cases z))
        | tab p hp ep h =>
          obtain ⟨more, z⟩ := un.tbls b #[] h
          exact .inl ⟨p, hp, ep, _, ok b _ z⟩
        | scr eb hk h =>
          refine .inr ?_
          have z := (ok b _ (un.frzs b _ _ h)).1
          rw [eb, E.scr] at e
          cases e
          exact z
      refine ⟨by rw [eu], ⟨fun b o e => ?_, fun b o e => ?_⟩, os, bare⟩
      · rcases same b o e with ⟨p, hp, rfl, more, hm⟩ | z
        · rw [E.tab p hp] at e
          cases e
          exact .inr (.inl ⟨((E.code p hp).tab (E.tab p hp)).isCodeTable, rfl, #[], more, rfl, by rw [Array.empty_append]; exact hm⟩)
        · exact .inl z
      · rcases same b o e with ⟨p, hp, rfl, more, hm⟩ | z
        · exact ⟨_, hm⟩
        · exact ⟨o, z⟩
end
end Wd
/-! Wd 21: from the head to the law. -/
namespace Wd
open PySem L2 PyProof.Rows PySem.Spec
/-! ### data of the module -/
def all2 {α β : Type} (f : α → β → Bool) : List α → List β → Bool
  | [], [] => true
  | x :: xs, y :: ys => f x y && all2 f xs ys
  | _, _ => false
def seqB (K : PySem.W.Frag) (c : String) (f : List Value → Bool) (a : Addr) : Bool := match K.lookup a with
  | some ⟨.type t, none, .seq its _, _⟩ => decide (t = c) && decide (its.size ≤ sizeLine) && f its.toList
  | _ => false
def dB (K : PySem.W.Frag) : Nat → PyData → Value → Bool
  | 0, _, _ => false
  | n + 1, .int i, .int j _ => decide (i = j)
  | n + 1, .str x, .str y _ => decide (x = y)
  | n + 1, .bool b, .bool c => decide (b = c)
  | n + 1, .none, .none => true
  | n + 1, .tuple ds, .ref a => seqB K "tuple" (all2 (dB K n) ds) a
  | n + 1, .list ds, .ref a => seqB K "list" (all2 (dB K n) ds) a
  | _, _, _ => false
theorem seqB_ok {K : PySem.W.Frag} {c : String} {f : List Value → Bool} {a : Addr} (h : seqB K c f a = true) : ∃ (o : Obj) (its : Array Value) (n : Nat), K.lookup a = some o ∧ o.cls = .type c ∧ o.dict = none ∧ o.data = .seq its n ∧ its.size ≤ sizeLine ∧ f its.toList = true := by
  unfold seqB at h
  split at h
  · rename_i q
    simp only [Bool.and_eq_true, decide_eq_true_eq] at h
    obtain ⟨⟨rfl, h1⟩, h2⟩ := h
    exact ⟨_, _, _, q, rfl, rfl, rfl, h1, h2⟩
  · cases h
theorem dB_ok {K : PySem.W.Frag} : ∀ (n : Nat) (d : PyData) (u : Value), dB K n d u = true → ∃ v, RelV v u ∧ ∀ H, Fz K H v d
  | 0, d, u, h => by
    unfold dB at h
    cases h
  | n + 1, d, u, h => by
    have all : ∀ (ds : List PyData) (us : List Value), all2 (dB K n) ds us = true → ∃ vs, Vals vs us ∧ ∀ H, FzAll K H vs ds := by
      intro ds
      induction ds with
      | nil =>
        intro us h
        cases us with
        | nil => exact ⟨[], .nil, fun _ => .nil⟩
        | cons _ _ => cases h
      | cons d ds ih =>
        intro us h
        cases us with
        | nil => cases h
        | cons u us =>
          simp only [all2, Bool.and_eq_true] at h
          obtain ⟨v, h1, h2⟩ := dB_ok n d u h.1
          obtain ⟨vs, h3, h4⟩ := ih us h.2
          exact ⟨v :: vs, .cons h1 h3, fun H => .cons (h2 H) (h4 H)⟩
    unfold dB at h
    split at h
    · rename_i e
      cases e
    · exact ⟨.int _, ⟨_, by rw [of_decide_eq_true h]⟩, fun _ => .int _⟩
    · exact ⟨.str _, ⟨_, by rw [of_decide_eq_true h]⟩, fun _ => .str _⟩
    · exact ⟨.bl _, by rw [of_decide_eq_true h]; rfl, fun _ => .bl _⟩
    · exact ⟨.non, rfl, fun _ => .non⟩
    · rename_i e
      cases e
      obtain ⟨o, its, k, h1, h2, h3, h4, h5, h6⟩ := seqB_ok h
      obtain ⟨vs, h7, h8⟩ := all _ _ h6
      exact ⟨.ref _, rfl, fun H => .tup (.inr ⟨o, its, k, h1, h2, h4, h5, h7⟩) (h8 H)⟩
    · rename_i e
      cases e
      obtain ⟨o, its, k, h1, h2, h3, h4, h5, h6⟩ := seqB_ok h
      obtain ⟨vs, h7, h8⟩ := all _ _ h6
      exact ⟨.ref _, rfl, fun H => .lstK h1 h2 h3 h4 h5 h7 (h8 H)⟩
    · cases h
/-! ### the head -/
def Df.dd (d : Df) : He.DefD := ⟨(d.gn, none), d.fi.name, d.fi.name, defArgs d.st, defBody d.st, defScope d.st, [], []⟩
def Mo.fa (m : Mo) : List He.Fa := m.fs.map (fun d => .glo d.gn) ++ (m.blts.map .free ++ (m.excs.map .glo ++ m.excs.map .exc))
def Mo.dds (m : Mo) : List He.DefD := m.fs.map Df.dd
def Mo.ex (m : Mo) (K : PySem.W.Frag) : Bool := m.glos.all fun p => match PySem.W.nsIn K mainGlobals p.1 with
  | some (some u) => dB K 6 p.2 u
  | _ => false
/-- the exceptions' classes -/
def Mo.cr (m : Mo) (K : PySem.W.Frag) (k : Nat) : Addr := match m.excs[k]? with
  | some x => He.ga K x
  | none => 0
theorem Mo.know {m : Mo} {K : PySem.W.Frag} {h : Heap} {mg : Str → Option Value} {ts : List He.Tab} {tf : List He.Defn} {w : World} (kin : K.In h) (G : h.Ns mainGlobals mg) (c : He.SaysX m.fa m.dds ts tf m.ex w h K) : Know K mg m (m.cr K) := by
  have fact : ∀ f ∈ m.fa, f.ok K = true := fun f hf => He.SaysD.facts c.t.d hf
  refine ⟨fun i d hi => ?_, fun x hx => ?_, fun k x d hk => ?_, fun k x hk => ?_⟩
  · have hd : d ∈ m.fs := List.mem_of_getElem? hi
    obtain ⟨fd, F⟩ := He.SaysD.defs c.t.d (d := d.dd) (List.mem_map.mpr ⟨d, hd, rfl⟩)
    have g := He.glo_ok kin G (fact (.glo d.gn) (List.mem_append_left _ (List.mem_map.mpr ⟨d, hd, rfl⟩)))
    exact ⟨_, fd, F, g⟩
  · exact He.free_ok kin G (fact (.free x) (List.mem_append_right _ (List.mem_append_left _ (List.mem_map.mpr ⟨x, hx, rfl⟩))))
  · have e := List.all_eq_true.mp c.more (x, d) (List.mem_of_getElem? hk)
    dsimp only at e
    split at e
    · rename_i u q
      obtain ⟨v, h1, h2⟩ := dB_ok _ _ _ e
      exact ⟨v, u, PySem.W.mg_of kin G q, h1, h2⟩
    · cases e
  · have hx : x ∈ m.excs := List.mem_of_getElem? hk
    have e : m.cr K k = He.ga K x := by unfold Mo.cr; rw [hk]
    rw [e]
    have g := He.glo_ok kin G (fact (.glo x) (List.mem_append_right _ (List.mem_append_right _ (List.mem_append_left _ (List.mem_map.mpr ⟨x, hx, rfl⟩)))))
    obtain ⟨e1, e2, e3, e4⟩ := He.exc_ok (fact (.exc x) (List.mem_append_right _ (List.mem_append_right _ (List.mem_append_right _ (List.mem_map.mpr ⟨x, hx, rfl⟩)))))
    exact ⟨g, e2, e1, e3, e4⟩
/-- what a law asks of the interpreter -/
def Answers (m : Mo) (n i : Nat) : Prop := ∀ ns : List Int, ns.length ≤ 63 → (∀ z ∈ ns, Builtin.Int.intBits z ≤ 1048576) → m.cf n i [.d (.list (ns.map .int))] = .ok (.d (.bool true)) none
theorem law_walk {l : PySem.W.OpenLaw} {n i nn : Nat} {q : Program} {loose : List Str} {XP : (Str → Option Value) → Heap → Prop} {d : DefRec} {m : Mo} {dl : Df}
    (hn : l.most = some 63) (hdf : d.params.defaults = []) (hr : Room n callerA) (ok : m.ok = true) (hi : m.fs[i]? = some dl) (hd : d.name = dl.gn) (hp : dl.fi.ps.length = 1) (A : Answers m n i) :
    PySem.W.WalkO q loose XP (He.hookX nn m.fa m.dds [] [] m.ex).says l.row.toRowW d [] (fun f vs => PySem.call f vs) := by
  refine Att.attach_callB hn hdf fun w s₀ s₁ mg mb fa o pm cd doc a vs ns G Y ho hod hcd hmg hobj hints hlen hbits hg => ?_
  obtain ⟨K, KX, c⟩ := Y
  have kn : Know K mg m (m.cr K) := Mo.know KX G.T.g c
  obtain ⟨f, fd, F, hf⟩ := kn.fn i dl hi
  rw [hd, hf] at hmg
  cases hmg
  have E : Entry K mg mb [] a vs ns s₁ := ⟨KX, G.T.g, G.T.b, G.T.builtins, G.T.nolimit, hg, fun p hp => (by cases hp), fun p hp => (by cases hp), fun p hp => (by cases hp), G.T.bmain, hobj, hints, Nat.le_trans hlen (by decide)⟩
  obtain ⟨x, hx⟩ : ∃ x, dl.fi.ps = [x] := by
    match h : dl.fi.ps, hp with
    | [x], _ => exact ⟨x, rfl⟩
  have ho' : dl.ok m = true := List.all_eq_true.mp ok dl (List.mem_of_getElem? hi)
  simp only [Df.ok, Bool.and_eq_true] at ho'
  have nd : dl.fi.ps.Nodup := by rw [hx]; simp
  refine law_run (fd := fd) (sp := spF K [] (m.cr K) 1 (m.cf n i)) (x := x) E hr (fun base kb nb _ => ?_) (fun s u => ?_) fun H _ hS => ?_
  · have z := fn_all (P := l.prog) (w := w) (TB := []) kn ok kb nb n i dl hi fa fd F hf
    rw [hx] at z
    exact z
  · have z := FunD.bindsA (ps := dl.fi.ps) F (fun _ _ _ _ _ _ us hl => bind_plain ho'.1.2 nd hl) s [u] (by rw [hx]; rfl)
    rw [hx] at z
    exact z
  · refine ⟨rfl, [.d (.list (ns.map .int))], .cons hS .nil, fun p hp => (by cases hp), ?_⟩
    rw [A ns hlen hbits]
    intro x H' _ _ _ rn
    have z : Fz K H' x (.bool true) := rn
    cases z
    rfl
end Wd
/-! plain 1: the interpreter, evaluated. -/
namespace Wd
open PySem
/-- a comprehension's element -/
def elF (O : Orc) (a : E) : DEnv → R PyData := fun e2 => (ev O a e2).bind fun p e3 => match frz p e3 with
      | some (x, e4) => .ok x e4
      | none => .bad
/-! what is evaluated, one form after another -/
section
variable (O : Orc) (e : DEnv) (a b c : E) (es : Es) (i j : Nat) (x : PyData) (v : DV)
@[simp] theorem x_var : ev O (.var i) e = (match e[i]? with
    | some (some _) => .ok (.slot i) e
    | _ => .bad) := rfl
@[simp] theorem x_int (n : Int) : ev O (.int n) e = .ok (.val (.d (.int n))) e := rfl
@[simp] theorem x_str (n : Str) : ev O (.str n) e = .ok (.val (.d (.str n))) e := rfl
@[simp] theorem x_bl (n : Bool) : ev O (.bl n) e = .ok (.val (.d (.bool n))) e := rfl
@[simp] theorem x_non : ev O .non e = .ok (.val (.d .none)) e := rfl
@[simp] theorem x_glo (k : Nat) : ev O (.glo k) e = lift1 ((O.glo[k]?).map fun x => .val (.d x)) e := rfl
@[simp] theorem x_bin (o : Op2) : ev O (.bin o a b) e = (ev O a e).bind fun pa e1 => (ev O b e1).bind fun pb e2 => lift1 ((res pa e2).bind fun x => (res pb e2).bind fun y => (op2 o x y).map .val) e2 := rfl
@[simp] theorem x_neg : ev O (.neg a) e = (ev O a e).bind fun pa e1 => lift1 ((res pa e1).bind fun x => (neg1 x).map .val) e1 := rfl
@[simp] theorem x_cmp (o : Cm) : ev O (.cmp o a b) e = (ev O a e).bind fun pa e1 => (ev O b e1).bind fun pb e2 => (lift1 ((res pa e2).bind fun x => (res pb e2).bind fun y => cm2 o x y) e2).bind fun k e3 => .ok (.val (.d (.bool k))) e3 := rfl
@[simp] theorem x_ands : ev O (.ands es) e = evAnd O es e := rfl
@[simp] theorem x_ors : ev O (.ors es) e = evOr O es e := rfl
@[simp] theorem x_and1 : evAnd O (.cons a .nil) e = ev O a e := rfl
@[simp] theorem x_and2 : evAnd O (.cons a (.cons b es)) e = (ev O a e).bind fun p e1 => match res p e1 with
      | some (.bool c) => if c then evAnd O (.cons b es) e1 else .ok (.val (.d (.bool false))) e1
      | _ => .bad := rfl
@[simp] theorem x_or1 : evOr O (.cons a .nil) e = ev O a e := rfl
@[simp] theorem x_or2 : evOr O (.cons a (.cons b es)) e = (ev O a e).bind fun p e1 => match res p e1 with
      | some (.bool c) => if c then .ok (.val (.d (.bool true))) e1 else evOr O (.cons b es) e1
      | _ => .bad := rfl
@[simp] theorem x_nott : ev O (.nott a) e = (ev O a e).bind fun pa e1 => match res pa e1 with
    | some (.bool c) => .ok (.val (.d (.bool (!c)))) e1
    | _ => .bad := rfl
@[simp] theorem x_ife (t : T) : ev O (.ife t a b) e = (evT O t e).bind fun t e1 => if t then ev O a e1 else ev O b e1 := rfl
@[simp] theorem x_tup : ev O (.tup es) e = (evDs O es e).bind fun xs e1 => if xs.length ≤ sizeLine then .ok (.val (.d (.tuple xs))) e1 else .bad := rfl
@[simp] theorem x_lst : ev O (.lst es) e = (evDs O es e).bind fun xs e1 => if xs.length ≤ sizeLine then .ok (.val (.own xs)) e1 else .bad := rfl
@[simp] theorem x_idx : ev O (.idx a b) e = (ev O a e).bind fun pa e1 => (ev O b e1).bind fun pi e2 => lift1 ((res pa e2).bind fun x => (res pi e2).bind fun y => (ixd x y).map .val) e2 := rfl
@[simp] theorem x_slc (lo hi : Eo) : ev O (.slc a lo hi) e = (ev O a e).bind fun pa e1 => (evO O lo e1).bind fun l e2 => (evO O hi e2).bind fun h e3 => lift1 ((res pa e3).bind fun x => (slcd x l h).map .val) e3 := rfl
@[simp] theorem x_no : evO O .no e = .ok none e := rfl
@[simp] theorem x_so : evO O (.so a) e = (ev O a e).bind fun p e1 => match res p e1 with
    | some (.int i) => .ok (some i) e1
    | _ => .bad := rfl
@[simp] theorem x_call (f : Nat) : ev O (.call f es) e = (evDs O es e).bind fun xs e1 => match O.cf f (xs.map .d) with
    | .ok v none => .ok (.val v) e1
    | .exc k => .exc k
    | _ => .bad := rfl
@[simp] theorem x_callm (f : Nat) : ev O (.callm f i es) e = (match e[i]? with
    | some (some (.own _)) => (evDs O es e).bind fun xs e1 => (match e1[i]? with
      | some (some (.own ys)) => (match O.cf f (.own ys :: xs.map .d) with
        | .ok v (some zs) => .ok (.val v) (e1.set i (some (.own zs)))
        | _ => .bad)
      | _ => .bad)
    | _ => .bad) := rfl
@[simp] theorem x_blt (k : Blt) : ev O (.blt k es) e = (evPs O es e).bind fun xs e1 => lift1 ((bltR k xs).map .val) e1 := rfl
@[simp] theorem x_lc (g : Tg) (it : I) (ts : Ts) (own : List Nat) : ev O (.lc a g it ts own) e = (evI O it e).bind fun xs e1 => if noOwn e1 own then (lcGo g own (evTs O ts) (elF O a) xs [] e1).bind fun ys e2 => .ok (.val (.own ys)) e2 else .bad := rfl
@[simp] theorem x_elf : elF O a e = (ev O a e).bind fun p e3 => match frz p e3 with
      | some (x, e4) => .ok x e4
      | none => .bad := rfl
@[simp] theorem x_fmt : ev O (.fmt a) e = (ev O a e).bind fun p e1 => match res p e1 with
    | some (.str y) => if y.length ≤ sizeLine then .ok (.val (.d (.str y))) e1 else .bad
    | some (.int i) => if i.natAbs.log2 < 1920 then .ok (.val (.d (.str (toString i)))) e1 else .bad
    | _ => .bad := rfl
@[simp] theorem x_js : ev O (.js es) e = evJ O es Str.empty e := rfl
@[simp] theorem x_jnil (acc : Str) : evJ O .nil acc e = .ok (.val (.d (.str acc))) e := rfl
@[simp] theorem x_jcons (acc : Str) : evJ O (.cons a es) acc e = (ev O a e).bind fun p e1 => match res p e1 with
    | some (.str y) => if (acc ++ y).length ≤ sizeLine then evJ O es (acc ++ y) e1 else .bad
    | _ => .bad := rfl
@[simp] theorem x_dnil : evDs O .nil e = .ok [] e := rfl
@[simp] theorem x_dcons : evDs O (.cons a es) e = (ev O a e).bind fun p e1 => match frz p e1 with
    | some (x, e2) => (evDs O es e2).bind fun xs e3 => .ok (x :: xs) e3
    | none => .bad := rfl
@[simp] theorem x_pnil : evPs O .nil e = .ok [] e := rfl
@[simp] theorem x_pcons : evPs O (.cons a es) e = (ev O a e).bind fun p e1 => (evPs O es e1).bind fun xs e2 => lift1 ((res p e2).map (· :: xs)) e2 := rfl
@[simp] theorem x_vnil : evVs O .nil e = .ok [] e := rfl
@[simp] theorem x_vcons : evVs O (.cons a es) e = (ev O a e).bind fun p e1 => match tak p e1 with
    | some (x, e2) => (evVs O es e2).bind fun xs e3 => .ok (x :: xs) e3
    | none => .bad := rfl
@[simp] theorem x_tru : evT O (.tru a) e = (ev O a e).bind fun p e1 => lift1 ((res p e1).bind truth) e1 := rfl
@[simp] theorem x_tcmp (o : Cm) : evT O (.cmp o a b) e = (ev O a e).bind fun pa e1 => (ev O b e1).bind fun pb e2 => lift1 ((res pa e2).bind fun x => (res pb e2).bind fun y => cm2 o x y) e2 := rfl
@[simp] theorem x_tchain (o p : Cm) : evT O (.chain o p a b c) e = (ev O a e).bind fun pa e1 => (ev O b e1).bind fun pb e2 => (lift1 ((res pa e2).bind fun x => (res pb e2).bind fun y => cm2 o x y) e2).bind fun k e2 => if k then (ev O c e2).bind fun pc e3 => lift1 ((res pb e3).bind fun y => (res pc e3).bind fun z => cm2 p y z) e3 else .ok false e2 := rfl
@[simp] theorem x_tands (ts : Ts) : evT O (.ands ts) e = evTs O ts e := rfl
@[simp] theorem x_tors (ts : Ts) : evT O (.ors ts) e = evTo O ts e := rfl
@[simp] theorem x_tnott (t : T) : evT O (.nott t) e = (evT O t e).bind fun b e1 => .ok (!b) e1 := rfl
@[simp] theorem x_tsnil : evTs O .nil e = .ok true e := rfl
@[simp] theorem x_tscons (t : T) (ts : Ts) : evTs O (.cons t ts) e = (evT O t e).bind fun b e1 => if b then evTs O ts e1 else .ok false e1 := rfl
@[simp] theorem x_tonil : evTo O .nil e = .ok false e := rfl
@[simp] theorem x_tocons (t : T) (ts : Ts) : evTo O (.cons t ts) e = (evT O t e).bind fun b e1 => if b then .ok true e1 else evTo O ts e1 := rfl
@[simp] theorem x_idata : evI O (.data a) e = (ev O a e).bind fun p e1 => match frz p e1 with
    | some (x, e2) => lift1 (items x) e2
    | none => .bad := rfl
@[simp] theorem x_irng1 : evI O (.rng1 a) e = (ev O a e).bind fun p e1 => match res p e1 with
    | some (.int n) => if small62 n then .ok (rangeD 0 n.toNat) e1 else .bad
    | _ => .bad := rfl
@[simp] theorem x_irng2 : evI O (.rng2 a b) e = (ev O a e).bind fun p e1 => (ev O b e1).bind fun q e2 => match res p e2, res q e2 with
    | some (.int n), some (.int m) => if small62 n && small62 m then .ok (rangeD n (m - n).toNat) e2 else .bad
    | _, _ => .bad := rfl
@[simp] theorem x_ienum : evI O (.enum es) e = (evDs O es e).bind fun xs e1 => lift1 (enumOf xs) e1 := rfl
@[simp] theorem x_izip : evI O (.zip es) e = (evDs O es e).bind fun xs e1 => lift1 (zipOf xs) e1 := rfl
@[simp] theorem x_res1 : res (.val v) e = some v.data := rfl
@[simp] theorem x_res2 : res (.slot i) e = (match e[i]? with
    | some (some v) => some v.data
    | _ => none) := rfl
@[simp] theorem x_frz1 : frz (.val v) e = some (v.data, e) := rfl
@[simp] theorem x_frz2 : frz (.slot i) e = (match e[i]? with
    | some (some (.d x)) => some (x, e)
    | some (some (.own xs)) => some (.list xs, e.set i (some (.d (.list xs))))
    | _ => none) := rfl
@[simp] theorem x_tak1 : tak (.val v) e = some (v, e) := rfl
@[simp] theorem x_tak2 : tak (.slot i) e = (match e[i]? with
    | some (some (.d x)) => some (.d x, e)
    | some (some (.own xs)) => some (.d (.list xs), e.set i (some (.d (.list xs))))
    | _ => none) := rfl
@[simp] theorem x_dd : (DV.d x).data = x := rfl
@[simp] theorem x_do (xs : List PyData) : (DV.own xs).data = .list xs := rfl
@[simp] theorem x_lift {α : Type} (y : α) : lift1 (some y) e = .ok y e := rfl
/-! statements -/
@[simp] theorem x_nil : exSs O .nil e = .ok .nx e := rfl
@[simp] theorem x_cons (s : S) (ss : Ss) : exSs O (.cons s ss) e = (exS O s e).bind fun f e1 => match f with
    | .nx => exSs O ss e1
    | .ret v => .ok (.ret v) e1
    | .brk => .ok .brk e1
    | .ct => .ok .ct e1 := rfl
@[simp] theorem x_set : exS O (.set i a) e = (ev O a e).bind fun p e1 => match tak p e1 with
    | some (v, e2) => if i < e2.length then .ok .nx (e2.set i (some v)) else .bad
    | none => .bad := rfl
@[simp] theorem x_par (is : List Nat) : exS O (.par is es) e = (evVs O es e).bind fun vs e1 => match setAll is vs e1 with
    | some e2 => .ok .nx e2
    | none => .bad := rfl
@[simp] theorem x_unp (g : Tg) : exS O (.unp g a) e = (ev O a e).bind fun p e1 => match frz p e1 with
    | some (x, e2) => (match bindT g x e2 with
      | some e3 => .ok .nx e3
      | none => .bad)
    | none => .bad := rfl
@[simp] theorem x_seti : exS O (.seti i a b) e = (ev O b e).bind fun p e1 => match frz p e1 with
    | some (y, e2) => (match e2[i]? with
      | some (some (.own _)) => (ev O a e2).bind fun q e3 => (match e3[i]?, res q e3 with
        | some (some (.own xs)), some (.int k) => (match L2.ixN xs.length k with
          | some j => .ok .nx (e3.set i (some (.own (xs.set j y))))
          | none => .bad)
        | _, _ => .bad)
      | _ => .bad)
    | none => .bad := rfl
@[simp] theorem x_app : exS O (.app i a) e = (match e[i]? with
    | some (some (.own _)) => (ev O a e).bind fun p e1 => (match frz p e1 with
      | some (y, e2) => (match e2[i]? with
        | some (some (.own xs)) => if xs.length < sizeLine then .ok .nx (e2.set i (some (.own (xs ++ [y])))) else .bad
        | _ => .bad)
      | none => .bad)
    | _ => .bad) := rfl
@[simp] theorem x_expr : exS O (.expr a) e = (ev O a e).bind fun _ e1 => .ok .nx e1 := rfl
@[simp] theorem x_ifs (t : T) (s1 s2 : Ss) : exS O (.ifs t s1 s2) e = (evT O t e).bind fun t e1 => if t then exSs O s1 e1 else exSs O s2 e1 := rfl
@[simp] theorem x_fors (g : Tg) (it : I) (s : Ss) : exS O (.fors g it s) e = (evI O it e).bind fun xs e1 => forL g (exSs O s) xs e1 := rfl
@[simp] theorem x_whl (t : T) (s : Ss) : exS O (.whl t s) e = whL (evT O t) (exSs O s) fuelW e := rfl
@[simp] theorem x_ret : exS O (.ret a) e = (ev O a e).bind fun p e1 => match tak p e1 with
    | some (v, e2) => .ok (.ret v) e2
    | none => .bad := rfl
@[simp] theorem x_retn : exS O .retn e = .ok (.ret (.d .none)) e := rfl
@[simp] theorem x_rais : exS O (.rais i) e = .exc i := rfl
@[simp] theorem x_brk : exS O .brk e = .ok .brk e := rfl
@[simp] theorem x_cont : exS O .cont e = .ok .ct e := rfl
@[simp] theorem x_pass : exS O .pass e = .ok .nx e := rfl
@[simp] theorem x_sanil : setAll [] [] e = some e := rfl
@[simp] theorem x_sacons (is : List Nat) (vs : List DV) : setAll (i :: is) (v :: vs) e = if i < e.length then setAll is vs (e.set i (some v)) else none := rfl
@[simp] theorem x_bt1 : bindT (.name i) x e = if i < e.length then some (e.set i (some (.d x))) else none := rfl
@[simp] theorem x_bt2 (gs : Tgs) (xs : List PyData) : bindT (.tup gs) (.tuple xs) e = bindTs gs xs e := rfl
@[simp] theorem x_bts1 : bindTs .nil [] e = some e := rfl
@[simp] theorem x_bts2 (g : Tg) (gs : Tgs) (xs : List PyData) : bindTs (.cons g gs) (x :: xs) e = (match bindT g x e with
    | some e1 => bindTs gs xs e1
    | none => none) := rfl
end
/-! operators by kinds -/
section
variable (i j : Int) (x y : PyData) (xs ys : List PyData)
@[simp] theorem o_add : op2 .add (.int i) (.int j) = some (.d (.int (i + j))) := rfl
@[simp] theorem o_sub : op2 .sub (.int i) (.int j) = some (.d (.int (i - j))) := rfl
@[simp] theorem o_mul : op2 .mul (.int i) (.int j) = if mulOk i j then some (.d (.int (i * j))) else none := rfl
@[simp] theorem o_fdiv : op2 .fdiv (.int i) (.int j) = if divOk j then some (.d (.int (i.fdiv j))) else none := rfl
@[simp] theorem o_mod : op2 .mod (.int i) (.int j) = if j ≠ 0 then some (.d (.int (i.fmod j))) else none := rfl
@[simp] theorem o_adds (s t : Str) : op2 .add (.str s) (.str t) = if s.length + t.length ≤ sizeLine then some (.d (.str (s ++ t))) else none := rfl
@[simp] theorem o_neg : neg1 (.int i) = some (.d (.int (-i))) := rfl
@[simp] theorem o_lt : cm2 .lt (.int i) (.int j) = some (decide (i < j)) := rfl
@[simp] theorem o_le : cm2 .le (.int i) (.int j) = some (decide (i ≤ j)) := rfl
@[simp] theorem o_gt : cm2 .gt (.int i) (.int j) = some (decide (j < i)) := rfl
@[simp] theorem o_ge : cm2 .ge (.int i) (.int j) = some (decide (j ≤ i)) := rfl
theorem eqd_ok (h : eqOk x y = true) (n : ∀ s t, x = .str s → y = .str t → False) : eqd x y = some (PyData.eqv x y) := by
  unfold eqd
  split
  · exact (n _ _ rfl rfl).elim
  · rw [if_pos h]
@[simp] theorem o_eqi : cm2 .eq (.int i) (.int j) = some (decide (i = j)) := by
  show eqd (.int i) (.int j) = some (decide (i = j))
  rw [eqd_ok _ _ rfl (fun _ _ h => by cases h)]
  have : PyData.eqv (.int i) (.int j) = (i == j) := by first | rfl | simp [PyData.eqv]
  rw [this]
  rfl
@[simp] theorem o_nei : cm2 .ne (.int i) (.int j) = some (!decide (i = j)) := by
  show (eqd (.int i) (.int j)).map (!·) = some (!decide (i = j))
  have h := o_eqi i j
  have h2 : eqd (.int i) (.int j) = some (decide (i = j)) := h
  rw [h2]
  rfl
@[simp] theorem o_eqs (s t : Str) : cm2 .eq (.str s) (.str t) = some (decide (s = t)) := rfl
@[simp] theorem o_nes (s t : Str) : cm2 .ne (.str s) (.str t) = some (!decide (s = t)) := rfl
@[simp] theorem o_ixl : ixd (.list xs) (.int i) = (L2.atI xs i).map .d := rfl
@[simp] theorem o_ixt : ixd (.tuple xs) (.int i) = (L2.atI xs i).map .d := rfl
@[simp] theorem o_slcl (lo hi : Option Int) : slcd (.list xs) lo hi = some (.own (cutD xs lo hi)) := rfl
@[simp] theorem o_abs : bltR .abs [.int i] = some (.d (.int (if i < 0 then -i else i))) := rfl
@[simp] theorem o_int : bltR .int [.int i] = some (.d (.int i)) := rfl
@[simp] theorem o_intb (b : Bool) : bltR .int [.bool b] = some (.d (.int (if b then 1 else 0))) := rfl
@[simp] theorem o_lenl : bltR .len [.list xs] = some (.d (.int xs.length)) := rfl
@[simp] theorem o_lent : bltR .len [.tuple xs] = some (.d (.int xs.length)) := rfl
@[simp] theorem o_max : bltR .max [.int i, .int j] = some (.d (.int (if j > i then j else i))) := rfl
@[simp] theorem o_min : bltR .min [.int i, .int j] = some (.d (.int (if j < i then j else i))) := rfl
@[simp] theorem o_repr : bltR .repr [.list xs] = if showOk (.list xs) then some (.d (.str (PyData.shown (.list xs)))) else none := rfl
@[simp] theorem o_str : bltR .str [.int i] = if i.natAbs.log2 < 1920 then some (.d (.str (toString i))) else none := rfl
@[simp] theorem o_list : bltR .list [.list xs] = some (.own xs) := rfl
@[simp] theorem o_listt : bltR .list [.tuple xs] = some (.own xs) := rfl
@[simp] theorem o_tuple : bltR .tuple [.list xs] = some (.d (.tuple xs)) := rfl
@[simp] theorem o_tuplet : bltR .tuple [.tuple xs] = some (.d (.tuple xs)) := rfl
@[simp] theorem o_items : items (.list xs) = some xs := rfl
@[simp] theorem o_itemst : items (.tuple xs) = some xs := rfl
@[simp] theorem o_trb (b : Bool) : truth (.bool b) = some b := rfl
@[simp] theorem o_zip : zipOf [.list xs, .list ys] = some (List.zipWith (fun u v => .tuple [u, v]) xs ys) := rfl
theorem ixn_nat {n m : Nat} (h : n < m) : L2.ixN m (n : Int) = some n := by
  unfold L2.ixN
  rw [if_pos (by omega), if_pos (by omega)]
  simp
theorem at_nat {n : Nat} (h : n < xs.length) : L2.atI xs (n : Int) = xs[n]? := by
  unfold L2.atI
  rw [ixn_nat h]
  rfl
@[simp] theorem at0 : L2.atI (x :: xs) 0 = some x := by
  have h := at_nat (x :: xs) (n := 0) (by simp)
  exact h
@[simp] theorem at1 : L2.atI (x :: y :: xs) 1 = some y := by
  have h := at_nat (x :: y :: xs) (n := 1) (by simp)
  exact h
end
theorem bind_cg {α β : Type} {r r' : R α} (f : α → DEnv → R β) (h : r = r') : r.bind f = r'.bind f := by rw [h]
end Wd
/-! plain 2: numbers, loops. -/
namespace Wd
open PySem
theorem sz_few {n : Nat} (h : n ≤ 1000) : (n ≤ sizeLine) = True := by
  have : (1000 : Nat) ≤ sizeLine := by decide
  exact eq_true (Nat.le_trans h this)
@[simp] theorem sz1 : (1 ≤ sizeLine) = True := sz_few (by omega)
@[simp] theorem sz2 : (2 ≤ sizeLine) = True := sz_few (by omega)
@[simp] theorem sz3 : (3 ≤ sizeLine) = True := sz_few (by omega)
@[simp] theorem sz4 : (4 ≤ sizeLine) = True := sz_few (by omega)
@[simp] theorem sz5 : (5 ≤ sizeLine) = True := sz_few (by omega)
@[simp] theorem sz6 : (6 ≤ sizeLine) = True := sz_few (by omega)
/-- numbers of few bits -/
def Bd (k : Nat) (i : Int) : Prop := i.natAbs < 2 ^ k
theorem Bd.log {k : Nat} {i : Int} (h : Bd k i) : i.natAbs.log2 ≤ k := by
  by_cases h0 : i.natAbs = 0
  · rw [h0]
    simp
  · exact Nat.le_of_lt ((Nat.log2_lt h0).mpr h)
theorem Bd.mulOk {k l : Nat} {i j : Int} (h1 : Bd k i) (h2 : Bd l j) (h : k + l < 1000000) : mulOk i j = true := by
  have := h1.log
  have := h2.log
  exact decide_eq_true (by omega)
theorem Bd.divOk {k : Nat} {j : Int} (h1 : Bd k j) (h0 : j ≠ 0) (h : k < 9000) : divOk j = true := by
  have := h1.log
  simp only [Wd.divOk, Bool.and_eq_true, decide_eq_true_eq]
  exact ⟨h0, by omega⟩
theorem Bd.mono {k l : Nat} {i : Int} (h : Bd k i) (hl : k ≤ l) : Bd l i := Nat.lt_of_lt_of_le h (Nat.pow_le_pow_right (by omega) hl)
theorem Bd.mul {k l : Nat} {i j : Int} (h1 : Bd k i) (h2 : Bd l j) : Bd (k + l) (i * j) := by
  unfold Bd at *
  rw [Int.natAbs_mul, Nat.pow_add]
  exact Nat.mul_lt_mul'' h1 h2
theorem Bd.add {k : Nat} {i j : Int} (h1 : Bd k i) (h2 : Bd k j) : Bd (k + 1) (i + j) := by
  unfold Bd at *
  have := Int.natAbs_add_le i j
  rw [Nat.pow_succ]
  omega
theorem Bd.neg {k : Nat} {i : Int} (h : Bd k i) : Bd k (-i) := by
  unfold Bd at *
  rw [Int.natAbs_neg]
  exact h
theorem Bd.of {k : Nat} {i : Int} (h1 : -(2 ^ k : Nat) < i) (h2 : i < (2 ^ k : Nat)) : Bd k i := by
  unfold Bd
  omega
theorem fdiv_abs (i j : Int) : (i.fdiv j).natAbs ≤ i.natAbs := by
  have key : ∀ m n : Nat, (m / n : Nat) ≤ m := fun m n => Nat.div_le_self m n
  rcases Int.eq_nat_or_neg i with ⟨m, rfl | rfl⟩ <;> rcases Int.eq_nat_or_neg j with ⟨n, rfl | rfl⟩
  · rw [Int.fdiv_eq_ediv_of_nonneg _ (by omega)]
    have := Int.natAbs_ediv_le_natAbs (m : Int) n
    omega
  · rw [← Int.neg_fdiv_neg, Int.neg_neg, Int.fdiv_eq_ediv_of_nonneg _ (by omega)]
    have := Int.natAbs_ediv_le_natAbs (-(m : Int)) n
    omega
  · rw [Int.fdiv_eq_ediv_of_nonneg _ (by omega)]
    have := Int.natAbs_ediv_le_natAbs (-(m : Int)) n
    omega
  · rw [Int.neg_fdiv_neg, Int.fdiv_eq_ediv_of_nonneg _ (by omega)]
    have := Int.natAbs_ediv_le_natAbs (m : Int) n
    omega
theorem Bd.fdiv {k : Nat} {i : Int} (h : Bd k i) (j : Int) : Bd k (i.fdiv j) := Nat.lt_of_le_of_lt (fdiv_abs i j) h
/-! ### loops -/
theorem forL_run {g : Tg} {body : DEnv → R Fl} (Inv : Nat → DEnv → Prop) (Post : DEnv → Prop) : ∀ (xs : List PyData) (i0 : Nat) (e : DEnv), Inv i0 e →
    (∀ i x e, xs[i]? = some x → Inv (i0 + i) e → ∃ e1 e2 fl, bindT g x e = some e1 ∧ body e1 = .ok fl e2 ∧ (((fl = .nx ∨ fl = .ct) ∧ Inv (i0 + i + 1) e2) ∨ (fl = .brk ∧ Post e2))) →
    (∀ e, Inv (i0 + xs.length) e → Post e) → ∃ e', forL g body xs e = .ok .nx e' ∧ Post e'
  | [], i0, e, h, _, hp => ⟨e, rfl, hp e h⟩
  | x :: xs, i0, e, h, hs, hp => by
    obtain ⟨e1, e2, fl, h1, h2, h3⟩ := hs 0 x e rfl h
    unfold forL
    rw [h1]
    dsimp only
    rw [h2, R.bind_ok]
    rcases h3 with ⟨h3, h4⟩ | ⟨rfl, h4⟩
    · obtain ⟨e', q1, q2⟩ := forL_run (body := body) Inv Post xs (i0 + 1) e2 h4 (fun i y e' hy he => by
        have z := hs (i + 1) y e' hy (by rw [show i0 + (i + 1) = i0 + 1 + i by omega]; exact he)
        rw [show i0 + (i + 1) + 1 = i0 + 1 + i + 1 by omega] at z
        exact z) (fun e' he => hp e' (by rw [List.length_cons, show i0 + (xs.length + 1) = i0 + 1 + xs.length by omega]; exact he))
      exact ⟨e', by rcases h3 with rfl | rfl <;> exact q1, q2⟩
    · exact ⟨e2, rfl, h4⟩
theorem lcGo_run {g : Tg} {own : List Nat} {tst : DEnv → R Bool} {elt : DEnv → R PyData} (Inv : Nat → List PyData → DEnv → Prop) : ∀ (xs : List PyData) (i0 : Nat) (acc : List PyData) (e : DEnv), Inv i0 acc e →
    (∀ i x acc e, xs[i]? = some x → Inv (i0 + i) acc e → ∃ e1 e2, bindT g x (wipeD e own) = some e1 ∧ ((tst e1 = .ok false e2 ∧ Inv (i0 + i + 1) acc (unwipe e e2 own)) ∨ (tst e1 = .ok true e2 ∧ ∃ y e3, elt e2 = .ok y e3 ∧ acc.length < sizeLine ∧ Inv (i0 + i + 1) (acc ++ [y]) (unwipe e e3 own)))) →
    ∃ ys e', lcGo g own tst elt xs acc e = .ok ys e' ∧ Inv (i0 + xs.length) ys e'
  | [], i0, acc, e, h, _ => ⟨acc, e, rfl, h⟩
  | x :: xs, i0, acc, e, h, hs => by
    obtain ⟨e1, e2, h1, h2⟩ := hs 0 x acc e rfl h
    have nx : ∀ acc' e', Inv (i0 + 0 + 1) acc' e' → ∃ ys e'', lcGo g own tst elt xs acc' e' = .ok ys e'' ∧ Inv (i0 + (x :: xs).length) ys e'' := fun acc' e' he => by
      obtain ⟨ys, e'', q1, q2⟩ := lcGo_run (tst := tst) (elt := elt) Inv xs (i0 + 1) acc' e' he (fun i y a e' hy he => by
        have z := hs (i + 1) y a e' hy (by rw [show i0 + (i + 1) = i0 + 1 + i by omega]; exact he)
        rw [show i0 + (i + 1) + 1 = i0 + 1 + i + 1 by omega] at z
        exact z)
      exact ⟨ys, e'', q1, by rw [List.length_cons, show i0 + (xs.length + 1) = i0 + 1 + xs.length by omega]; exact q2⟩
    unfold lcGo
    rw [h1]
    dsimp only
    rcases h2 with ⟨h2, h3⟩ | ⟨h2, y, e3, h3, h4, h5⟩
    · rw [h2]
      exact nx _ _ h3
    · rw [h2]
      show ∃ ys e', ((noExc (elt e2)).bind fun y e3 => if acc.length < sizeLine then lcGo g own tst elt xs (acc ++ [y]) (unwipe e e3 own) else .bad) = .ok ys e' ∧ _
      rw [h3]
      show ∃ ys e', (if acc.length < sizeLine then lcGo g own tst elt xs (acc ++ [y]) (unwipe e e3 own) else .bad) = .ok ys e' ∧ _
      rw [if_pos h4]
      exact nx _ _ h5
/-- Euclid's loop -/
theorem whL_gcd {c : DEnv → R Bool} {body : DEnv → R Fl} (E : Nat → Nat → DEnv) (hc : ∀ a b : Nat, c (E a b) = .ok (decide ((0 : Int) < b)) (E a b)) (hb : ∀ a b : Nat, 0 < b → body (E a b) = .ok .nx (E b (a % b))) :
    ∀ (k a b : Nat), b < 2 ^ k → ∀ fuel, 2 * k + 1 ≤ fuel → whL c body fuel (E a b) = .ok .nx (E (Nat.gcd a b) 0)
  | k, a, 0, _, fuel, hf => by
    obtain ⟨f, rfl⟩ : ∃ f, fuel = f + 1 := ⟨fuel - 1, by omega⟩
    unfold whL
    rw [hc]
    simp
  | 0, a, b + 1, h, fuel, hf => by
    simp at h
  | k + 1, a, b + 1, h, fuel, hf => by
    obtain ⟨f, rfl⟩ : ∃ f, fuel = f + 1 + 1 := ⟨fuel - 2, by omega⟩
    have d1 : decide ((0 : Int) < ((b + 1 : Nat) : Int)) = true := by simp
    rw [whL, hc, d1, R.bind_ok, if_pos rfl, hb _ _ (by omega), R.bind_ok]
    dsimp only
    by_cases hr : a % (b + 1) = 0
    · rw [hr, whL, hc, Nat.gcd_comm, Nat.gcd_rec, hr]
      simp
    · have d2 : decide ((0 : Int) < ((a % (b + 1) : Nat) : Int)) = true := by
        refine decide_eq_true ?_
        have := Nat.pos_of_ne_zero hr
        exact Int.ofNat_lt.mpr this
      have l1 : a % (b + 1) < b + 1 := Nat.mod_lt _ (by omega)
      rw [whL, hc, d2, R.bind_ok, if_pos rfl, hb _ _ (Nat.pos_of_ne_zero hr), R.bind_ok]
      dsimp only
      have l2 : (b + 1) % (a % (b + 1)) < 2 ^ k := by
        have h1 := Nat.mod_lt (b + 1) (Nat.pos_of_ne_zero hr)
        have h2 : (b + 1) % (a % (b + 1)) + a % (b + 1) ≤ b + 1 := by
          have := Nat.div_add_mod (b + 1) (a % (b + 1))
          have q : 1 ≤ (b + 1) / (a % (b + 1)) := (Nat.le_div_iff_mul_le (Nat.pos_of_ne_zero hr)).mpr (by omega)
          have := Nat.mul_le_mul_left (a % (b + 1)) q
          omega
        rw [Nat.pow_succ] at h
        omega
      rw [whL_gcd E hc hb k _ _ l2 f (by omega)]
      have e : Nat.gcd (a % (b + 1)) ((b + 1) % (a % (b + 1))) = Nat.gcd a (b + 1) := by
        rw [Nat.gcd_comm, ← Nat.gcd_rec, ← Nat.gcd_rec, Nat.gcd_comm]
      rw [e]
/-! ### texts -/
structure Sh (d n : Nat) (x : PyData) : Prop where
  s : x.showable = true
  h : x.hasDict = false
  dp : x.depth ≤ d
  len : x.shown.length ≤ n
theorem Sh.mono {d n d' n' : Nat} {x : PyData} (h : Sh d n x) (h1 : d ≤ d') (h2 : n ≤ n') : Sh d' n' x := ⟨h.s, h.h, Nat.le_trans h.dp h1, Nat.le_trans h.len h2⟩
theorem Sh.int {i : Int} (h : Bd 1900 i) : Sh 0 1921 (.int i) := by
  have hl : i.natAbs.log2 < 1920 := by have := h.log; omega
  refine ⟨by simp only [PyData.showable]; exact decide_eq_true hl, by simp only [PyData.hasDict], by simp [PyData.depth], ?_⟩
  simp only [PyData.shown]
  exact PyProof.Rows.int_text_len_1921 hl
theorem Sh.bool {b : Bool} : Sh 0 5 (.bool b) := by
  refine ⟨by simp only [PyData.showable], by simp only [PyData.hasDict], by simp [PyData.depth], ?_⟩
  simp only [PyData.shown]
  cases b <;> decide
theorem sh_all {d n : Nat} : ∀ {xs : List PyData}, (∀ x ∈ xs, Sh d n x) → PyData.showableAll xs = true ∧ PyData.hasDictAll xs = false ∧ PyData.depthAll xs ≤ d ∧ ((PyData.shownAll xs).map (·.length)).sum ≤ n * xs.length ∧ (PyData.shownAll xs).length = xs.length
  | [], _ => by simp [PyData.showableAll, PyData.hasDictAll, PyData.depthAll, PyData.shownAll]
  | x :: xs, h => by
    obtain ⟨h1, h2, h3, h4, h5⟩ := sh_all (xs := xs) fun y hy => h y (List.mem_cons_of_mem _ hy)
    have hx := h x List.mem_cons_self
    refine ⟨by simp only [PyData.showableAll, hx.s, h1, Bool.and_self], by simp only [PyData.hasDictAll, hx.h, h2, Bool.or_self], ?_, ?_, ?_⟩
    · simp only [PyData.depthAll]
      exact Nat.max_le.mpr ⟨hx.dp, h3⟩
    · simp only [PyData.shownAll, List.map_cons, List.sum_cons, List.length_cons]
      have := hx.len
      rw [Nat.mul_succ]
      omega
    · simp only [PyData.shownAll, List.length_cons, h5]
theorem Sh.list {d n : Nat} {xs : List PyData} (h : ∀ x ∈ xs, Sh d n x) : Sh (d + 1) ((n + 2) * xs.length + 3) (.list xs) := by
  obtain ⟨h1, h2, h3, h4, h5⟩ := sh_all h
  refine ⟨by simp only [PyData.showable, h1], by simp only [PyData.hasDict, h2], by simp only [PyData.depth]; omega, ?_⟩
  simp only [PyData.shown]
  have := listText_len_le (PyData.shownAll xs)
  rw [h5] at this
  rw [Nat.add_mul]
  omega
theorem Sh.tuple {d n : Nat} {xs : List PyData} (h : ∀ x ∈ xs, Sh d n x) : Sh (d + 1) ((n + 2) * xs.length + 3) (.tuple xs) := by
  obtain ⟨h1, h2, h3, h4, h5⟩ := sh_all h
  refine ⟨by simp only [PyData.showable, h1], by simp only [PyData.hasDict, h2], by simp only [PyData.depth]; omega, ?_⟩
  simp only [PyData.shown]
  have := tupleText_len_le (PyData.shownAll xs)
  rw [h5] at this
  rw [Nat.add_mul]
  omega
theorem sh_one {d n : Nat} {x : PyData} (h : Sh d n x) (h1 : d ≤ 59) (h2 : n ≤ 16777000) : showOk (.list [x]) = true := by
  have z := Sh.list (xs := [x]) (d := d) (n := n) fun y hy => by
    rw [List.mem_singleton] at hy
    rw [hy]
    exact h
  have e : sizeLine = 16777216 := by decide
  have z4 := z.len
  simp only [List.length_singleton] at z4
  have z3 := z.dp
  simp only [showOk, z.s, z.h, Bool.not_false, Bool.and_true, Bool.true_and, Bool.and_eq_true, decide_eq_true_eq]
  exact ⟨by omega, by omega⟩
/-! ### defs -/
theorem runF_ret {O : Orc} {F : FI} {args : List DV} {e0 e : DEnv} {v : DV} (h1 : args.length = F.ps.length) (h2 : argOk F.mut0 args = true) (he : args.map some ++ List.replicate (F.N.length - args.length) none = e0) (h3 : exSs O F.body e0 = .ok (.ret v) e) : runF O F args = finR F.mut0 v e := by
  unfold runF
  rw [if_pos ⟨h1, h2⟩, he, h3]
theorem runF_nx {O : Orc} {F : FI} {args : List DV} {e0 e : DEnv} (h1 : args.length = F.ps.length) (h2 : argOk F.mut0 args = true) (he : args.map some ++ List.replicate (F.N.length - args.length) none = e0) (h3 : exSs O F.body e0 = .ok .nx e) : runF O F args = finR F.mut0 (.d .none) e := by
  unfold runF
  rw [if_pos ⟨h1, h2⟩, he, h3]
theorem runF_exc {O : Orc} {F : FI} {args : List DV} {e0 : DEnv} {k : Nat} (h1 : args.length = F.ps.length) (h2 : argOk F.mut0 args = true) (h0 : F.mut0 = false) (he : args.map some ++ List.replicate (F.N.length - args.length) none = e0) (h3 : exSs O F.body e0 = .exc k) : runF O F args = .exc k := by
  unfold runF
  rw [if_pos ⟨h1, h2⟩, he, h3, h0]
  rfl
theorem run_cons {O : Orc} {s : S} {ss : Ss} {e e1 : DEnv} {r : R Fl} (h : exS O s e = .ok .nx e1) (k : exSs O ss e1 = r) : exSs O (.cons s ss) e = r := by
  rw [x_cons, h]
  exact k
theorem run_ret {O : Orc} {s : S} {ss : Ss} {e e1 : DEnv} {v : DV} (h : exS O s e = .ok (.ret v) e1) : exSs O (.cons s ss) e = .ok (.ret v) e1 := by
  rw [x_cons, h]
  rfl
theorem run_exc {O : Orc} {s : S} {ss : Ss} {e : DEnv} {k : Nat} (h : exS O s e = .exc k) : exSs O (.cons s ss) e = .exc k := by
  rw [x_cons, h]
  rfl
theorem runF_one {O : Orc} {F : FI} {args : List DV} {s : S} {e0 : DEnv} {v : DV} (hb : F.body = .cons s .nil) (h0 : F.mut0 = false) (h1 : args.length = F.ps.length) (h2 : argOk F.mut0 args = true) (he : args.map some ++ List.replicate (F.N.length - args.length) none = e0) (h3 : exS O s e0 = .ok (.ret v) e0) : runF O F args = .ok v none := by
  refine (runF_ret h1 h2 he (by rw [hb]; exact run_ret h3)).trans ?_
  rw [h0]
  rfl
theorem absE (a : Int) : (if a < 0 then -a else a) = (a.natAbs : Int) := by split <;> omega
theorem fmod_nat (a b : Nat) : (a : Int).fmod b = ((a % b : Nat) : Int) := by
  rw [Int.fmod_eq_emod_of_nonneg _ (by omega)]
  rfl
theorem fdiv_nat (a b : Nat) : (a : Int).fdiv b = ((a / b : Nat) : Int) := by
  rw [Int.fdiv_eq_ediv_of_nonneg _ (by omega)]
  rfl
theorem cf_eq (m : Mo) (n i : Nat) (ds : List DV) (F : FI) (h : m.tb[i]? = some F) : m.cf (n + 1) i ds = runF { cf := m.cf n, glo := m.gl } F ds := by
  show (match m.tb[i]? with
    | some F => runF { cf := callF m.tb m.gl n, glo := m.gl } F ds
    | none => CA.bad) = _
  rw [h]
  rfl
theorem cut_all (xs : List PyData) (k : Nat) (h : xs.length ≤ k) : cutD xs none (some (k : Int)) = xs := by
  unfold cutD
  rw [HT.sIx_nat, HT.sIx_none, Nat.min_eq_right h]
  simp
theorem cut_from (xs : List PyData) (k : Nat) (h : k ≤ xs.length) : cutD xs (some (k : Int)) none = xs.drop k := by
  unfold cutD
  rw [HT.sIx_nat, HT.sIx_none, Nat.min_eq_left h]
  rw [List.take_of_length_le (by simp)]
theorem o_pow (i j : Int) : op2 .pow (.int i) (.int j) = if 0 ≤ j ∧ j ≤ 1000000 ∧ i.natAbs < 2 ^ 64 then some (.d (.int (i ^ j.toNat))) else none := rfl
theorem bd_nat {k n : Nat} (h : n < 2 ^ k) : Bd k (n : Int) := h
theorem bd_mod {k : Nat} {a b : Int} (h0 : 0 < b) (h : b ≤ (2 ^ k : Nat)) : Bd k (a.fmod b) := by
  rw [Int.fmod_eq_emod_of_nonneg _ (by omega)]
  have h1 := Int.emod_nonneg a (b := b) (by omega)
  have h2 := Int.emod_lt_of_pos a h0
  exact Bd.of (by omega) (by omega)
theorem fmod_range {a b : Int} (h0 : 0 < b) : 0 ≤ a.fmod b ∧ a.fmod b < b := by
  rw [Int.fmod_eq_emod_of_nonneg _ (by omega)]
  exact ⟨Int.emod_nonneg a (by omega), Int.emod_lt_of_pos a h0⟩
end Wd
namespace Wd
open PySem
theorem range_get {n i : Nat} {x : PyData} (h : (rangeD 0 n)[i]? = some x) : i < n ∧ x = .int i := by
  unfold rangeD at h
  rw [List.getElem?_map, Option.map_eq_some_iff] at h
  obtain ⟨j, hj, rfl⟩ := h
  obtain ⟨h1, h2⟩ := List.getElem?_eq_some_iff.mp hj
  simp at h1 h2
  exact ⟨h1, by rw [← h2, Int.zero_add]⟩
theorem range_len (n : Nat) : (rangeD 0 n).length = n := by simp [rangeD]
theorem fold_take {α β : Type} (f : β → α → β) (b : β) {xs : List α} {i : Nat} {x : α} (h : xs[i]? = some x) : (xs.take (i + 1)).foldl f b = f ((xs.take i).foldl f b) x := by
  rw [List.take_succ, h]
  simp
end Wd
namespace Wd
open PySem
/-- texts of code points -/
def Chs (x : Str) : Prop := ∀ c ∈ x.cps.toList, c < 16 ^ 8
theorem chs_of (s : String) : Chs (s : Str) := by
  intro c hc
  have e : ((s : Str)).cps.toList = s.toList.map Char.toNat := by
    show (Str.ofString s).cps.toList = _
    rw [Str.ofString_eq_toList]
  rw [e] at hc
  obtain ⟨ch, _, rfl⟩ := List.mem_map.mp hc
  have := ch.val.toNat_lt
  exact Nat.lt_of_lt_of_le this (by decide)
theorem Chs.append {x y : Str} (h1 : Chs x) (h2 : Chs y) : Chs (x ++ y) := by
  intro c hc
  rw [Str.cps_append, Array.toList_append] at hc
  rcases List.mem_append.mp hc with h | h
  · exact h1 c h
  · exact h2 c h
theorem Sh.str {x : Str} (h : Chs x) : Sh 0 (10 * x.length + 2) (.str x) := by
  refine ⟨by simp only [PyData.showable], by simp only [PyData.hasDict], by simp [PyData.depth], ?_⟩
  simp only [PyData.shown]
  exact PySem.StrLaws.reprText_len x h
theorem it_len {i : Int} (h : Bd 1900 i) : ((toString i : String) : Str).length ≤ 1921 := PyProof.Rows.int_text_len_1921 (by have := h.log; omega)
theorem it_log {i : Int} (h : Bd 1900 i) : i.natAbs.log2 < 1920 := by have := h.log; omega
theorem sm_few {n : Nat} (h : n ≤ 1000000) : small62 (n : Int) = true := by
  simp only [small62, Bool.and_eq_true, decide_eq_true_eq]
  omega
end Wd
namespace Wd
open PySem
theorem i_rng {O : Orc} {a : E} {e e1 : DEnv} {z : Int} (h : ev O a e = .ok (.val (.d (.int z))) e1) (hm : small62 z = true) : evI O (.rng1 a) e = .ok (rangeD 0 z.toNat) e1 := by
  rw [x_irng1, h, R.bind_ok, x_res1, x_dd]
  show (if small62 z = true then R.ok (rangeD 0 z.toNat) e1 else .bad) = _
  rw [if_pos hm]
theorem i_len {O : Orc} {e : DEnv} {i : Nat} {rs : List PyData} (h : e[i]? = some (some (.d (.list rs)))) (hm : rs.length ≤ 1000000) : evI O (.rng1 (.blt .len (.cons (.var i) .nil))) e = .ok (rangeD 0 rs.length) e := by
  have e1 : ev O (.blt .len (.cons (.var i) .nil)) e = .ok (.val (.d (.int rs.length))) e := by
    simp only [x_blt, x_pcons, x_pnil, x_var, h, R.bind_ok, x_res1, x_res2, x_dd, x_lift, Option.map_some, o_lenl]
  exact i_rng e1 (sm_few hm)
end Wd
/-! k01: the law's text, compact; the checks. -/
namespace K01
open PySem L2 PyProof.Rows PySem.Spec Wd
def top (i : Nat) : Stmt := PySem.Challenge.pw_wayscounted_k01_ratios.main.body.getD i (.Pass ⟨0, 0, 0, 0⟩)
/-- divisor -/
def f_divisor : FI := ⟨"divisor", ["first", "second"], ["first", "second"], false,
  .cons (.par [0, 1] (.cons (.blt .abs (.cons (.var 0) .nil)) (.cons (.blt .abs (.cons (.var 1) .nil)) .nil))) (.cons (.whl (.cmp .gt (.var 1) (.int 0)) (.cons (.par [0, 1] (.cons (.var 1) (.cons (.bin .mod (.var 0) (.var 1)) .nil))) .nil)) (.cons (.ret (.var 0)) .nil))⟩
/-- ratio -/
def f_ratio : FI := ⟨"ratio", ["top", "below"], ["top", "below", "common"], false,
  .cons (.ifs (.cmp .eq (.var 1) (.int 0)) (.cons (.rais 0) .nil) .nil) (.cons (.set 2 (.call 0 (.cons (.var 0) (.cons (.var 1) .nil)))) (.cons (.ifs (.cmp .lt (.var 1) (.int 0)) (.cons (.set 2 (.neg (.var 2))) .nil) .nil) (.cons (.ret (.tup (.cons (.bin .fdiv (.var 0) (.var 2)) (.cons (.bin .fdiv (.var 1) (.var 2)) .nil)))) .nil)))⟩
/-- is_ratio -/
def f_is_ratio : FI := ⟨"is_ratio", ["value"], ["value"], false,
  .cons (.ret (.ands (.cons (.cmp .eq (.blt .len (.cons (.var 0) .nil)) (.int 2)) (.cons (.cmp .ge (.idx (.var 0) (.int 1)) (.int 1)) (.cons (.cmp .eq (.call 0 (.cons (.idx (.var 0) (.int 0)) (.cons (.idx (.var 0) (.int 1)) .nil))) (.int 1)) .nil))))) .nil⟩
/-- added -/
def f_added : FI := ⟨"added", ["first", "second"], ["first", "second"], false,
  .cons (.ret (.call 1 (.cons (.bin .add (.bin .mul (.idx (.var 0) (.int 0)) (.idx (.var 1) (.int 1))) (.bin .mul (.idx (.var 1) (.int 0)) (.idx (.var 0) (.int 1)))) (.cons (.bin .mul (.idx (.var 0) (.int 1)) (.idx (.var 1) (.int 1))) .nil)))) .nil⟩
/-- negative -/
def f_negative : FI := ⟨"negative", ["value"], ["value"], false,
  .cons (.ret (.tup (.cons (.neg (.idx (.var 0) (.int 0))) (.cons (.idx (.var 0) (.int 1)) .nil)))) .nil⟩
/-- times -/
def f_times : FI := ⟨"times", ["first", "second"], ["first", "second"], false,
  .cons (.ret (.call 1 (.cons (.bin .mul (.idx (.var 0) (.int 0)) (.idx (.var 1) (.int 0))) (.cons (.bin .mul (.idx (.var 0) (.int 1)) (.idx (.var 1) (.int 1))) .nil)))) .nil⟩
/-- over -/
def f_over : FI := ⟨"over", ["first", "second"], ["first", "second"], false,
  .cons (.ret (.call 1 (.cons (.bin .mul (.idx (.var 0) (.int 0)) (.idx (.var 1) (.int 1))) (.cons (.bin .mul (.idx (.var 0) (.int 1)) (.idx (.var 1) (.int 0))) .nil)))) .nil⟩
/-- less -/
def f_less : FI := ⟨"less", ["first", "second"], ["first", "second"], false,
  .cons (.ret (.cmp .lt (.bin .mul (.idx (.var 0) (.int 0)) (.idx (.var 1) (.int 1))) (.bin .mul (.idx (.var 1) (.int 0)) (.idx (.var 0) (.int 1))))) .nil⟩
/-- greatest -/
def f_greatest : FI := ⟨"greatest", ["values"], ["values", "best", "value"], false,
  .cons (.set 1 (.idx (.var 0) (.int 0))) (.cons (.fors (.name 2) (.data (.slc (.var 0) (.so (.int 1)) .no)) (.cons (.set 1 (.ife (.tru (.call 7 (.cons (.var 1) (.cons (.var 2) .nil)))) (.var 2) (.var 1))) .nil)) (.cons (.ret (.var 1)) .nil))⟩
/-- summed -/
def f_summed : FI := ⟨"summed", ["values"], ["values", "total", "value"], false,
  .cons (.set 1 (.tup (.cons (.int 0) (.cons (.int 1) .nil)))) (.cons (.fors (.name 2) (.data (.var 0)) (.cons (.set 1 (.call 3 (.cons (.var 1) (.cons (.var 2) .nil)))) .nil)) (.cons (.ret (.var 1)) .nil))⟩
/-- weighed -/
def f_weighed : FI := ⟨"weighed", ["values", "others"], ["values", "others", "value", "other"], false,
  .cons (.ret (.call 9 (.cons (.lc (.call 5 (.cons (.var 2) (.cons (.var 3) .nil))) (.tup (.cons (.name 2) (.cons (.name 3) .nil))) (.zip (.cons (.var 0) (.cons (.var 1) .nil))) .nil [2, 3]) .nil))) .nil⟩
/-- ratio_text -/
def f_ratio_text : FI := ⟨"ratio_text", ["value"], ["value"], false,
  .cons (.ret (.ife (.cmp .eq (.idx (.var 0) (.int 1)) (.int 1)) (.blt .str (.cons (.idx (.var 0) (.int 0)) .nil)) (.js (.cons (.fmt (.idx (.var 0) (.int 0))) (.cons (.str "/") (.cons (.fmt (.idx (.var 0) (.int 1))) .nil)))))) .nil⟩
/-- _law_same -/
def f__law_same : FI := ⟨"_law_same", ["told", "due"], ["told", "due"], false,
  .cons (.ret (.cmp .eq (.blt .repr (.cons (.lst (.cons (.var 0) .nil)) .nil)) (.blt .repr (.cons (.lst (.cons (.var 1) .nil)) .nil)))) .nil⟩
/-- _law_stream -/
def f__law_stream : FI := ⟨"_law_stream", ["script"], ["script", "numbers", "cell", "rest", "k", "stirred"], false,
  .cons (.set 1 (.lst .nil)) (.cons (.fors (.name 2) (.data (.slc (.var 0) .no (.so (.int 63)))) (.cons (.set 3 (.blt .abs (.cons (.blt .int (.cons (.var 2) .nil)) .nil))) (.cons (.ifs (.cmp .ge (.var 3) (.bin .pow (.int 10) (.int 18))) (.cons (.fors (.name 4) (.rng1 (.int 60)) (.cons (.app 1 (.bin .mod (.blt .int (.cons (.var 3) .nil)) (.int 1009))) (.cons (.set 3 (.bin .fdiv (.var 3) (.int 1009))) (.cons (.ifs (.cmp .eq (.var 3) (.int 0)) (.cons (.brk) .nil) .nil) .nil)))) .nil) (.cons (.set 5 (.bin .mod (.blt .int (.cons (.var 3) .nil)) (.int 2147483647))) (.cons (.fors (.name 4) (.rng1 (.int 10)) (.cons (.set 5 (.bin .mod (.blt .int (.cons (.bin .add (.bin .add (.bin .mul (.var 5) (.int 48271)) (.bin .mul (.int 7) (.var 4))) (.int 11)) .nil)) (.int 2147483647))) (.cons (.app 1 (.bin .mod (.bin .mod (.blt .int (.cons (.bin .add (.bin .mul (.var 5) (.int 69621)) (.var 4)) .nil)) (.int 2147483629)) (.int 1009))) .nil))) .nil))) .nil))) (.cons (.ifs (.cmp .eq (.blt .len (.cons (.var 1) .nil)) (.int 0)) (.cons (.app 1 (.int 0)) .nil) .nil) (.cons (.ret (.var 1)) .nil)))⟩
/-- _law_next -/
def f__law_next : FI := ⟨"_law_next", ["state", "many"], ["state", "many", "turn"], true,
  .cons (.seti 0 (.int 1) (.bin .add (.idx (.var 0) (.int 1)) (.int 1))) (.cons (.set 2 (.bin .fdiv (.idx (.var 0) (.int 1)) (.blt .len (.cons (.idx (.var 0) (.int 0)) .nil)))) (.cons (.ret (.bin .mod (.blt .int (.cons (.bin .add (.bin .add (.idx (.idx (.var 0) (.int 0)) (.bin .mod (.idx (.var 0) (.int 1)) (.blt .len (.cons (.idx (.var 0) (.int 0)) .nil)))) (.bin .mul (.var 2) (.int 389))) (.bin .mul (.bin .mul (.idx (.var 0) (.int 1)) (.var 2)) (.int 17))) .nil)) (.var 1))) .nil))⟩
/-- _law_divisor -/
def f__law_divisor : FI := ⟨"_law_divisor", ["first", "second"], ["first", "second"], false,
  .cons (.set 0 (.blt .max (.cons (.var 0) (.cons (.bin .sub (.int 0) (.var 0)) .nil)))) (.cons (.set 1 (.blt .max (.cons (.var 1) (.cons (.bin .sub (.int 0) (.var 1)) .nil)))) (.cons (.whl (.cmp .gt (.var 1) (.int 0)) (.cons (.par [0, 1] (.cons (.var 1) (.cons (.bin .mod (.blt .int (.cons (.var 0) .nil)) (.var 1)) .nil))) .nil)) (.cons (.ret (.var 0)) .nil)))⟩
/-- _law_ratio -/
def f__law_ratio : FI := ⟨"_law_ratio", ["top", "below"], ["top", "below", "common"], false,
  .cons (.set 2 (.call 15 (.cons (.var 0) (.cons (.var 1) .nil)))) (.cons (.ifs (.cmp .lt (.var 1) (.int 0)) (.cons (.set 2 (.bin .sub (.int 0) (.var 2))) .nil) .nil) (.cons (.ret (.tup (.cons (.bin .fdiv (.var 0) (.var 2)) (.cons (.bin .fdiv (.var 1) (.var 2)) .nil)))) .nil))⟩
/-- _law_plus -/
def f__law_plus : FI := ⟨"_law_plus", ["first", "second"], ["first", "second"], false,
  .cons (.ret (.call 16 (.cons (.bin .add (.bin .mul (.idx (.var 0) (.int 0)) (.idx (.var 1) (.int 1))) (.bin .mul (.idx (.var 1) (.int 0)) (.idx (.var 0) (.int 1)))) (.cons (.bin .mul (.idx (.var 0) (.int 1)) (.idx (.var 1) (.int 1))) .nil)))) .nil⟩
/-- _law_sum -/
def f__law_sum : FI := ⟨"_law_sum", ["values"], ["values", "total", "value"], false,
  .cons (.set 1 (.tup (.cons (.int 0) (.cons (.int 1) .nil)))) (.cons (.fors (.name 2) (.data (.var 0)) (.cons (.set 1 (.call 17 (.cons (.var 1) (.cons (.var 2) .nil)))) .nil)) (.cons (.ret (.var 1)) .nil))⟩
/-- _law_less -/
def f__law_less : FI := ⟨"_law_less", ["first", "second"], ["first", "second"], false,
  .cons (.ret (.cmp .lt (.bin .mul (.idx (.var 0) (.int 0)) (.idx (.var 1) (.int 1))) (.bin .mul (.idx (.var 1) (.int 0)) (.idx (.var 0) (.int 1))))) .nil⟩
/-- _law_drawn -/
def f__law_drawn : FI := ⟨"_law_drawn", ["state"], ["state", "top"], true,
  .cons (.set 1 (.bin .sub (.callm 14 0 (.cons (.int 400) .nil)) (.int 200))) (.cons (.ret (.call 16 (.cons (.bin .mul (.var 1) (.idx (.lst (.cons (.int 1) (.cons (.bin .pow (.int 10) (.int 6)) .nil))) (.blt .int (.cons (.cmp .eq (.callm 14 0 (.cons (.int 5) .nil)) (.int 0)) .nil)))) (.cons (.bin .add (.int 1) (.callm 14 0 (.cons (.int 60) .nil))) .nil)))) .nil)⟩
/-- law -/
def f_law : FI := ⟨"law", ["script"], ["script", "state", "turn", "top", "below", "one", "other", "rows", "more", "due", "best", "total", "k", "text", "row"], false,
  .cons (.set 1 (.lst (.cons (.call 13 (.cons (.var 0) .nil)) (.cons (.int 0) .nil)))) (.cons (.fors (.name 2) (.rng1 (.int 12)) (.cons (.set 3 (.bin .sub (.callm 14 1 (.cons (.int 900) .nil)) (.int 450))) (.cons (.set 4 (.idx (.lst (.cons (.bin .add (.int 1) (.callm 14 1 (.cons (.int 80) .nil))) (.cons (.bin .sub (.bin .sub (.int 0) (.int 1)) (.callm 14 1 (.cons (.int 80) .nil))) .nil))) (.callm 14 1 (.cons (.int 2) .nil)))) (.cons (.set 5 (.callm 20 1 .nil)) (.cons (.set 6 (.callm 20 1 .nil)) (.cons (.set 7 (.lc (.callm 20 1 .nil) (.name 12) (.rng1 (.bin .add (.int 1) (.callm 14 1 (.cons (.int 5) .nil)))) .nil [12])) (.cons (.set 8 (.lc (.callm 20 1 .nil) (.name 14) (.data (.var 7)) .nil [14])) (.cons (.ifs (.nott (.tru (.call 12 (.cons (.lst (.cons (.call 1 (.cons (.var 3) (.cons (.var 4) .nil))) (.cons (.call 2 (.cons (.var 5) .nil)) (.cons (.call 2 (.cons (.tup (.cons (.bin .mul (.int 2) (.idx (.var 5) (.int 0))) (.cons (.bin .mul (.int 2) (.idx (.var 5) (.int 1))) .nil))) .nil)) (.cons (.call 2 (.cons (.tup (.cons (.int 1) (.cons (.int 0) .nil))) .nil)) (.cons (.call 2 (.cons (.tup (.cons (.int 3) (.cons (.neg (.int 1)) .nil))) .nil)) .nil)))))) (.cons (.lst (.cons (.call 16 (.cons (.var 3) (.cons (.var 4) .nil))) (.cons (.bl true) (.cons (.bl false) (.cons (.bl false) (.cons (.bl false) .nil)))))) .nil))))) (.cons (.ret (.bl false)) .nil) .nil) (.cons (.set 9 (.lst (.cons (.call 17 (.cons (.var 5) (.cons (.var 6) .nil))) (.cons (.tup (.cons (.bin .sub (.int 0) (.idx (.var 5) (.int 0))) (.cons (.idx (.var 5) (.int 1)) .nil))) (.cons (.call 16 (.cons (.bin .mul (.idx (.var 5) (.int 0)) (.idx (.var 6) (.int 0))) (.cons (.bin .mul (.idx (.var 5) (.int 1)) (.idx (.var 6) (.int 1))) .nil))) (.cons (.call 19 (.cons (.var 5) (.cons (.var 6) .nil))) .nil)))))) (.cons (.ifs (.nott (.tru (.call 12 (.cons (.lst (.cons (.call 3 (.cons (.var 5) (.cons (.var 6) .nil))) (.cons (.call 4 (.cons (.var 5) .nil)) (.cons (.call 5 (.cons (.var 5) (.cons (.var 6) .nil))) (.cons (.call 7 (.cons (.var 5) (.cons (.var 6) .nil))) .nil))))) (.cons (.var 9) .nil))))) (.cons (.ret (.bl false)) .nil) .nil) (.cons (.ifs (.ands (.cons (.cmp .ne (.idx (.var 6) (.int 0)) (.int 0)) (.cons (.nott (.tru (.call 12 (.cons (.call 6 (.cons (.var 5) (.cons (.var 6) .nil))) (.cons (.call 16 (.cons (.bin .mul (.idx (.var 5) (.int 0)) (.idx (.var 6) (.int 1))) (.cons (.bin .mul (.idx (.var 5) (.int 1)) (.idx (.var 6) (.int 0))) .nil))) .nil))))) .nil))) (.cons (.ret (.bl false)) .nil) .nil) (.cons (.set 10 (.idx (.var 7) (.int 0))) (.cons (.set 11 (.tup (.cons (.int 0) (.cons (.int 1) .nil)))) (.cons (.fors (.name 12) (.rng1 (.blt .len (.cons (.var 7) .nil))) (.cons (.set 10 (.idx (.lst (.cons (.var 10) (.cons (.idx (.var 7) (.var 12)) .nil))) (.blt .int (.cons (.call 19 (.cons (.var 10) (.cons (.idx (.var 7) (.var 12)) .nil))) .nil)))) (.cons (.set 11 (.call 17 (.cons (.var 11) (.cons (.call 16 (.cons (.bin .mul (.idx (.idx (.var 7) (.var 12)) (.int 0)) (.idx (.idx (.var 8) (.var 12)) (.int 0))) (.cons (.bin .mul (.idx (.idx (.var 7) (.var 12)) (.int 1)) (.idx (.idx (.var 8) (.var 12)) (.int 1))) .nil))) .nil)))) .nil))) (.cons (.ifs (.nott (.tru (.call 12 (.cons (.lst (.cons (.call 8 (.cons (.var 7) .nil)) (.cons (.call 9 (.cons (.var 7) .nil)) (.cons (.call 10 (.cons (.var 7) (.cons (.var 8) .nil))) .nil)))) (.cons (.lst (.cons (.var 10) (.cons (.call 18 (.cons (.var 7) .nil)) (.cons (.var 11) .nil)))) .nil))))) (.cons (.ret (.bl false)) .nil) .nil) (.cons (.set 13 (.blt .str (.cons (.idx (.var 5) (.int 0)) .nil))) (.cons (.ifs (.cmp .ne (.idx (.var 5) (.int 1)) (.int 1)) (.cons (.set 13 (.bin .add (.bin .add (.var 13) (.str "/")) (.blt .str (.cons (.idx (.var 5) (.int 1)) .nil)))) .nil) .nil) (.cons (.ifs (.nott (.tru (.call 12 (.cons (.call 11 (.cons (.var 5) .nil)) (.cons (.var 13) .nil))))) (.cons (.ret (.bl false)) .nil) .nil) .nil)))))))))))))))))) (.cons (.ret (.bl true)) .nil))⟩
def d_divisor : Df := ⟨"divisor", f_divisor, top 8⟩
def d_ratio : Df := ⟨"ratio", f_ratio, top 9⟩
def d_is_ratio : Df := ⟨"is_ratio", f_is_ratio, top 10⟩
def d_added : Df := ⟨"added", f_added, top 11⟩
def d_negative : Df := ⟨"negative", f_negative, top 12⟩
def d_times : Df := ⟨"times", f_times, top 13⟩
def d_over : Df := ⟨"over", f_over, top 14⟩
def d_less : Df := ⟨"less", f_less, top 15⟩
def d_greatest : Df := ⟨"greatest", f_greatest, top 16⟩
def d_summed : Df := ⟨"summed", f_summed, top 17⟩
def d_weighed : Df := ⟨"weighed", f_weighed, top 18⟩
def d_ratio_text : Df := ⟨"ratio_text", f_ratio_text, top 19⟩
def d__law_same : Df := ⟨"_law_same", f__law_same, top 21⟩
def d__law_stream : Df := ⟨"_law_stream", f__law_stream, top 22⟩
def d__law_next : Df := ⟨"_law_next", f__law_next, top 23⟩
def d__law_divisor : Df := ⟨"_law_divisor", f__law_divisor, top 25⟩
def d__law_ratio : Df := ⟨"_law_ratio", f__law_ratio, top 26⟩
def d__law_plus : Df := ⟨"_law_plus", f__law_plus, top 27⟩
def d__law_sum : Df := ⟨"_law_sum", f__law_sum, top 28⟩
def d__law_less : Df := ⟨"_law_less", f__law_less, top 29⟩
def d__law_drawn : Df := ⟨"_law_drawn", f__law_drawn, top 31⟩
def d_law : Df := ⟨"law", f_law, top 32⟩
def mo : Mo := { fs := [d_divisor, d_ratio, d_is_ratio, d_added, d_negative, d_times, d_over, d_less, d_greatest, d_summed, d_weighed, d_ratio_text, d__law_same, d__law_stream, d__law_next, d__law_divisor, d__law_ratio, d__law_plus, d__law_sum, d__law_less, d__law_drawn, d_law], blts := ["abs", "len", "zip", "str", "repr", "range", "int", "max"], glos := [], excs := ["NotAllowed"] }
theorem mo_ok : mo.ok = true := by decide +kernel
end K01
/-! k01, plain: what the program's and the law's defs compute. -/
namespace K01
open PySem Wd
abbrev iD (i : Int) : Option DV := some (.d (.int i))
theorem gcd_loop (n : Nat) (a b : Nat) (h : b < 2 ^ 10000) : exS { cf := mo.cf n, glo := mo.gl } (.whl (.cmp .gt (.var 1) (.int 0)) (.cons (.par [0, 1] (.cons (.var 1) (.cons (.bin .mod (.var 0) (.var 1)) .nil))) .nil)) [iD a, iD b] = .ok .nx [iD (Nat.gcd a b), iD 0] := by
  rw [x_whl]
  refine whL_gcd (fun a b : Nat => [iD a, iD b]) (fun a b => by simp) (fun a b hb => ?_) 10000 a b h fuelW (by unfold fuelW; omega)
  have h0 : ¬ b = 0 := by omega
  simp [h0]
  exact Int.fmod_eq_emod_of_nonneg _ (by omega)
theorem gcd_loop2 (n : Nat) (a b : Nat) (h : b < 2 ^ 10000) : exS { cf := mo.cf n, glo := mo.gl } (.whl (.cmp .gt (.var 1) (.int 0)) (.cons (.par [0, 1] (.cons (.var 1) (.cons (.bin .mod (.blt .int (.cons (.var 0) .nil)) (.var 1)) .nil))) .nil)) [iD a, iD b] = .ok .nx [iD (Nat.gcd a b), iD 0] := by
  rw [x_whl]
  refine whL_gcd (fun a b : Nat => [iD a, iD b]) (fun a b => by simp) (fun a b hb => ?_) 10000 a b h fuelW (by unfold fuelW; omega)
  have h0 : ¬ b = 0 := by omega
  simp [h0]
  exact Int.fmod_eq_emod_of_nonneg _ (by omega)
theorem c_divisor (n : Nat) (a b : Int) (h : Bd 10000 b) : mo.cf (n + 1) 0 [.d (.int a), .d (.int b)] = .ok (.d (.int (Int.gcd a b))) none := by
  rw [cf_eq mo n 0 _ f_divisor rfl]
  refine (runF_ret (v := .d (.int (Int.gcd a b))) (e0 := [iD a, iD b]) (e := [iD (Int.gcd a b), iD 0]) rfl rfl rfl (run_cons (e1 := [iD a.natAbs, iD b.natAbs]) ?_ (run_cons (gcd_loop n _ _ h) (run_ret ?_)))).trans rfl
  · simp [absE]
  · rw [show Nat.gcd a.natAbs b.natAbs = Int.gcd a b from rfl]
    simp
theorem maxE (a : Int) : (if a < -a then -a else a) = (a.natAbs : Int) := by split <;> omega
theorem c_ldivisor (n : Nat) (a b : Int) (h : Bd 10000 b) : mo.cf (n + 1) 15 [.d (.int a), .d (.int b)] = .ok (.d (.int (Int.gcd a b))) none := by
  rw [cf_eq mo n 15 _ f__law_divisor rfl]
  refine (runF_ret (v := .d (.int (Int.gcd a b))) (e0 := [iD a, iD b]) (e := [iD (Int.gcd a b), iD 0]) rfl rfl rfl (run_cons (e1 := [iD a.natAbs, iD b]) ?_ (run_cons (e1 := [iD a.natAbs, iD b.natAbs]) ?_ (run_cons (gcd_loop2 n _ _ h) (run_ret ?_))))).trans rfl
  · simp
    exact maxE a
  · simp
    exact maxE b
  · rw [show Nat.gcd a.natAbs b.natAbs = Int.gcd a b from rfl]
    simp
/-- what both sides divide by -/
def cm (t b : Int) : Int := if b < 0 then -(Int.gcd t b : Int) else Int.gcd t b
def rT (t b : Int) : PyData := .tuple [.int (t.fdiv (cm t b)), .int (b.fdiv (cm t b))]
theorem gcd_bd {k : Nat} {t b : Int} (hb : Bd k b) (h0 : b ≠ 0) : Bd k (Int.gcd t b) := by
  have h1 : Int.gcd t b ≤ b.natAbs := Nat.le_of_dvd (by omega) (Nat.gcd_dvd_right _ _)
  exact Nat.lt_of_le_of_lt (by simpa using h1) hb
theorem gcd_ne {t b : Int} (h0 : b ≠ 0) : (Int.gcd t b : Int) ≠ 0 := by
  have : 0 < Int.gcd t b := Nat.pos_of_ne_zero fun h => h0 (Int.gcd_eq_zero_iff.mp h).2
  omega
theorem c_ratio (n : Nat) (t b : Int) (h : Bd 8000 b) (h0 : b ≠ 0) : mo.cf (n + 2) 1 [.d (.int t), .d (.int b)] = .ok (.d (rT t b)) none := by
  rw [cf_eq mo (n + 1) 1 _ f_ratio rfl]
  have d1 : divOk (cm t b) = true := by
    unfold cm
    split
    · exact ((gcd_bd h h0).neg).divOk (by have := gcd_ne (t := t) h0; omega) (by omega)
    · exact (gcd_bd h h0).divOk (gcd_ne h0) (by omega)
  refine (runF_ret (v := .d (rT t b)) (e0 := [iD t, iD b, none]) (e := [iD t, iD b, iD (cm t b)]) rfl rfl rfl (run_cons (e1 := [iD t, iD b, none]) ?_ (run_cons (e1 := [iD t, iD b, iD (Int.gcd t b)]) ?_ (run_cons (e1 := [iD t, iD b, iD (cm t b)]) ?_ (run_ret ?_))))).trans rfl
  · simp [h0]
  · simp [c_divisor n t b (h.mono (by omega))]
  · by_cases hb : b < 0
    · simp [hb, cm]
    · simp [hb, cm]
  · simp [d1, rT]
theorem c_lratio (n : Nat) (t b : Int) (h : Bd 8000 b) (h0 : b ≠ 0) : mo.cf (n + 2) 16 [.d (.int t), .d (.int b)] = .ok (.d (rT t b)) none := by
  rw [cf_eq mo (n + 1) 16 _ f__law_ratio rfl]
  have d1 : divOk (cm t b) = true := by
    unfold cm
    split
    · exact ((gcd_bd h h0).neg).divOk (by have := gcd_ne (t := t) h0; omega) (by omega)
    · exact (gcd_bd h h0).divOk (gcd_ne h0) (by omega)
  refine (runF_ret (v := .d (rT t b)) (e0 := [iD t, iD b, none]) (e := [iD t, iD b, iD (cm t b)]) rfl rfl rfl (run_cons (e1 := [iD t, iD b, iD (Int.gcd t b)]) ?_ (run_cons (e1 := [iD t, iD b, iD (cm t b)]) ?_ (run_ret ?_)))).trans rfl
  · simp [c_ldivisor n t b (h.mono (by omega))]
  · by_cases hb : b < 0
    · simp [hb, cm]
    · simp [hb, cm]
  · simp [d1, rT]
/-- the law's state: its numbers, how many were taken -/
abbrev St (L : List Int) (j : Int) : List PyData := [.list (L.map .int), .int j]
theorem ixn1 : L2.ixN 2 1 = some 1 := rfl
theorem c_next (n : Nat) (L : List Int) (j many : Int) (hL : L ≠ []) (hz : L.length ≤ 10000) (hj : 0 ≤ j) (hb : j < 1000000) (hm : 0 < many) : ∃ r, 0 ≤ r ∧ r < many ∧ mo.cf (n + 1) 14 [.own (St L j), .d (.int many)] = .ok (.d (.int r)) (some (St L (j + 1))) := by
  have hlen : 0 < L.length := List.length_pos_iff.mpr hL
  have hl0 : ¬ L = [] := hL
  obtain ⟨J, hJ⟩ : ∃ J : Nat, j + 1 = J := ⟨(j + 1).toNat, by omega⟩
  obtain ⟨v, hv⟩ : ∃ v, L[J % L.length]? = some v := ⟨_, List.getElem?_eq_getElem (Nat.mod_lt _ hlen)⟩
  have ix : L2.atI (L.map PyData.int) ((J : Int).fmod (L.length : Int)) = some (.int v) := by
    rw [fmod_nat, at_nat _ (by simpa using Nat.mod_lt _ hlen), List.getElem?_map, hv]
    rfl
  have bL : Bd 14 (L.length : Int) := Bd.of (by omega) (by omega)
  have dv : divOk (L.length : Int) = true := bL.divOk (by omega) (by omega)
  have bJ : Bd 20 (J : Int) := Bd.of (by omega) (by omega)
  have bT : Bd 20 ((J : Int).fdiv (L.length : Int)) := bJ.fdiv _
  have m1 : mulOk ((J : Int).fdiv (L.length : Int)) 389 = true := bT.mulOk (l := 20) (by unfold Bd; decide) (by omega)
  have m2 : mulOk (J : Int) ((J : Int).fdiv (L.length : Int)) = true := bJ.mulOk bT (by omega)
  have m3 : mulOk ((J : Int) * (J : Int).fdiv (L.length : Int)) 17 = true := (bJ.mul bT).mulOk (l := 20) (by unfold Bd; decide) (by omega)
  rw [cf_eq mo n 14 _ f__law_next rfl]
  generalize hT : (J : Int).fdiv (L.length : Int) = t at *
  have hm0 : ¬ many = 0 := by omega
  refine ⟨(v + t * 389 + J * t * 17).fmod many, (fmod_range hm).1, (fmod_range hm).2, (runF_ret (v := .d (.int ((v + t * 389 + J * t * 17).fmod many))) (e0 := [some (.own (St L j)), iD many, none]) (e := [some (.own (St L (j + 1))), iD many, iD t]) rfl rfl rfl (run_cons (e1 := [some (.own (St L (j + 1))), iD many, none]) ?_ (run_cons (e1 := [some (.own (St L (j + 1))), iD many, iD t]) ?_ (run_ret ?_)))).trans rfl⟩
  · simp [ixn1]
  · rw [hJ]
    simp [dv, hT]
  · rw [hJ]
    simp [hl0, ix, m1, m2, m3, hm0]
/-- ratios of few bits -/
def Rt (k : Nat) (x : PyData) : Prop := ∃ a b : Int, x = .tuple [.int a, .int b] ∧ Bd k a ∧ 0 < b ∧ Bd k b ∧ Int.gcd a b = 1
theorem Rt.mono {k l : Nat} {x : PyData} (h : Rt k x) (hl : k ≤ l) : Rt l x := by
  obtain ⟨a, b, e, h1, h2, h3, h4⟩ := h
  exact ⟨a, b, e, h1.mono hl, h2, h3.mono hl, h4⟩
theorem cm_ne {t b : Int} (h0 : b ≠ 0) : cm t b ≠ 0 := by
  have := gcd_ne (t := t) h0
  unfold cm
  split <;> omega
theorem div_mm {c t q : Int} (h0 : c ≠ 0) (h : t = c * q) : t.fdiv c = q := by
  rw [h]
  exact Int.mul_fdiv_cancel_left _ h0
theorem gcd_mm {c t b q p : Int} (h1 : t = c * q) (h2 : b = c * p) : Int.gcd t b = c.natAbs * Int.gcd q p := by
  rw [h1, h2]
  exact Int.gcd_mul_left _ _ _
theorem rT_rt {k : Nat} {t b : Int} (ht : Bd k t) (hb : Bd k b) (h0 : b ≠ 0) : Rt k (rT t b) := by
  have c0 : cm t b ≠ 0 := cm_ne h0
  have d1 : cm t b ∣ t := by
    unfold cm
    split
    · exact Int.neg_dvd.mpr (Int.gcd_dvd_left _ _)
    · exact Int.gcd_dvd_left _ _
  have d2 : cm t b ∣ b := by
    unfold cm
    split
    · exact Int.neg_dvd.mpr (Int.gcd_dvd_right _ _)
    · exact Int.gcd_dvd_right _ _
  have na : (cm t b).natAbs = Int.gcd t b := by
    unfold cm
    split
    · rw [Int.natAbs_neg]
      rfl
    · rfl
  have sg : 0 < b.fdiv (cm t b) := by
    obtain ⟨p, hp⟩ := d2
    have e : b.fdiv (cm t b) = p := div_mm c0 hp
    rw [e]
    have g0 := gcd_ne (t := t) h0
    rcases Int.lt_or_le 0 p with h | h
    · exact h
    · exfalso
      have hc : (b < 0 ∧ cm t b < 0) ∨ (0 < b ∧ 0 < cm t b) := by
        unfold cm
        split <;> omega
      rcases hc with ⟨h1, h2⟩ | ⟨h1, h2⟩
      · have := Int.mul_nonneg_of_nonpos_of_nonpos (Int.le_of_lt h2) h
        omega
      · have := Int.mul_nonpos_of_nonneg_of_nonpos (Int.le_of_lt h2) h
        omega
  refine ⟨t.fdiv (cm t b), b.fdiv (cm t b), rfl, ht.fdiv _, sg, hb.fdiv _, ?_⟩
  obtain ⟨q, hq⟩ := d1
  obtain ⟨p, hp⟩ := d2
  have e1 : t.fdiv (cm t b) = q := div_mm c0 hq
  have e2 : b.fdiv (cm t b) = p := div_mm c0 hp
  rw [e1, e2]
  have h : Int.gcd t b = (cm t b).natAbs * Int.gcd q p := gcd_mm hq hp
  rw [na] at h
  have g1 : 0 < Int.gcd t b := by have := gcd_ne (t := t) h0; omega
  exact (Nat.mul_eq_left (by omega)).mp h.symm
def plD : PyData → PyData → PyData
  | .tuple [.int a, .int b], .tuple [.int c, .int d] => rT (a * d + c * b) (b * d)
  | _, _ => .none
def tiD : PyData → PyData → PyData
  | .tuple [.int a, .int b], .tuple [.int c, .int d] => rT (a * c) (b * d)
  | _, _ => .none
def leD : PyData → PyData → Bool
  | .tuple [.int a, .int b], .tuple [.int c, .int d] => decide (a * d < c * b)
  | _, _ => false
theorem mul_ne {a b : Int} (h1 : 0 < a) (h2 : 0 < b) : a * b ≠ 0 := Int.ne_of_gt (Int.mul_pos h1 h2)
theorem pl_rt {k l : Nat} {x y : PyData} (hx : Rt k x) (hy : Rt l y) : Rt (k + l + 1) (plD x y) := by
  obtain ⟨a, b, rfl, a1, b0, b1, _⟩ := hx
  obtain ⟨c, d, rfl, c1, d0, d1, _⟩ := hy
  exact rT_rt (Bd.add (a1.mul d1) ((c1.mul b1).mono (by omega))) ((b1.mul d1).mono (by omega)) (mul_ne b0 d0)
theorem ti_rt {k l : Nat} {x y : PyData} (hx : Rt k x) (hy : Rt l y) : Rt (k + l) (tiD x y) := by
  obtain ⟨a, b, rfl, a1, b0, b1, _⟩ := hx
  obtain ⟨c, d, rfl, c1, d0, d1, _⟩ := hy
  exact rT_rt (a1.mul c1) (b1.mul d1) (mul_ne b0 d0)
section
variable {k l : Nat} {x y : PyData} (n : Nat)
theorem c_added (hx : Rt k x) (hy : Rt l y) (h : k + l < 7000) : mo.cf (n + 3) 3 [.d x, .d y] = .ok (.d (plD x y)) none := by
  obtain ⟨a, b, rfl, a1, b0, b1, _⟩ := hx
  obtain ⟨c, d, rfl, c1, d0, d1, _⟩ := hy
  rw [cf_eq mo (n + 2) 3 _ f_added rfl]
  have m1 := a1.mulOk d1 (by omega)
  have m2 := c1.mulOk b1 (by omega)
  have m3 := b1.mulOk d1 (by omega)
  refine runF_one (v := .d (plD (.tuple [.int a, .int b]) (.tuple [.int c, .int d]))) rfl rfl rfl rfl rfl ?_
  simp [m1, m2, m3, plD, c_ratio n (a * d + c * b) (b * d) ((b1.mul d1).mono (by omega)) (mul_ne b0 d0)]
theorem c_lplus (hx : Rt k x) (hy : Rt l y) (h : k + l < 7000) : mo.cf (n + 3) 17 [.d x, .d y] = .ok (.d (plD x y)) none := by
  obtain ⟨a, b, rfl, a1, b0, b1, _⟩ := hx
  obtain ⟨c, d, rfl, c1, d0, d1, _⟩ := hy
  rw [cf_eq mo (n + 2) 17 _ f__law_plus rfl]
  have m1 := a1.mulOk d1 (by omega)
  have m2 := c1.mulOk b1 (by omega)
  have m3 := b1.mulOk d1 (by omega)
  refine runF_one (v := .d (plD (.tuple [.int a, .int b]) (.tuple [.int c, .int d]))) rfl rfl rfl rfl rfl ?_
  simp [m1, m2, m3, plD, c_lratio n (a * d + c * b) (b * d) ((b1.mul d1).mono (by omega)) (mul_ne b0 d0)]
theorem c_times (hx : Rt k x) (hy : Rt l y) (h : k + l < 7000) : mo.cf (n + 3) 5 [.d x, .d y] = .ok (.d (tiD x y)) none := by
  obtain ⟨a, b, rfl, a1, b0, b1, _⟩ := hx
  obtain ⟨c, d, rfl, c1, d0, d1, _⟩ := hy
  rw [cf_eq mo (n + 2) 5 _ f_times rfl]
  have m1 := a1.mulOk c1 (by omega)
  have m3 := b1.mulOk d1 (by omega)
  refine runF_one (v := .d (tiD (.tuple [.int a, .int b]) (.tuple [.int c, .int d]))) rfl rfl rfl rfl rfl ?_
  simp [m1, m3, tiD, c_ratio n (a * c) (b * d) ((b1.mul d1).mono (by omega)) (mul_ne b0 d0)]
theorem c_over {a b c d : Int} (a1 : Bd k a) (b1 : Bd k b) (c1 : Bd l c) (d1 : Bd l d) (b0 : 0 < b) (c0 : c ≠ 0) (h : k + l < 7000) : mo.cf (n + 3) 6 [.d (.tuple [.int a, .int b]), .d (.tuple [.int c, .int d])] = .ok (.d (rT (a * d) (b * c))) none := by
  rw [cf_eq mo (n + 2) 6 _ f_over rfl]
  have m1 := a1.mulOk d1 (by omega)
  have m3 := b1.mulOk c1 (by omega)
  refine runF_one (v := .d (rT (a * d) (b * c))) rfl rfl rfl rfl rfl ?_
  simp [m1, m3, c_ratio n (a * d) (b * c) ((b1.mul c1).mono (by omega)) (Int.mul_ne_zero (by omega) c0)]
theorem c_less (hx : Rt k x) (hy : Rt l y) (h : k + l < 7000) : mo.cf (n + 1) 7 [.d x, .d y] = .ok (.d (.bool (leD x y))) none := by
  obtain ⟨a, b, rfl, a1, b0, b1, _⟩ := hx
  obtain ⟨c, d, rfl, c1, d0, d1, _⟩ := hy
  rw [cf_eq mo n 7 _ f_less rfl]
  have m1 := a1.mulOk d1 (by omega)
  have m2 := c1.mulOk b1 (by omega)
  refine runF_one (v := .d (.bool (leD (.tuple [.int a, .int b]) (.tuple [.int c, .int d])))) rfl rfl rfl rfl rfl ?_
  simp [m1, m2, leD]
theorem c_lless (hx : Rt k x) (hy : Rt l y) (h : k + l < 7000) : mo.cf (n + 1) 19 [.d x, .d y] = .ok (.d (.bool (leD x y))) none := by
  obtain ⟨a, b, rfl, a1, b0, b1, _⟩ := hx
  obtain ⟨c, d, rfl, c1, d0, d1, _⟩ := hy
  rw [cf_eq mo n 19 _ f__law_less rfl]
  have m1 := a1.mulOk d1 (by omega)
  have m2 := c1.mulOk b1 (by omega)
  refine runF_one (v := .d (.bool (leD (.tuple [.int a, .int b]) (.tuple [.int c, .int d])))) rfl rfl rfl rfl rfl ?_
  simp [m1, m2, leD]
theorem c_negative (a b : Int) : mo.cf (n + 1) 4 [.d (.tuple [.int a, .int b])] = .ok (.d (.tuple [.int (-a), .int b])) none := by
  rw [cf_eq mo n 4 _ f_negative rfl]
  simp [runF, f_negative, argOk, finR]
theorem c_same {d z : Nat} (h : Sh d z x) (h1 : d ≤ 59) (h2 : z ≤ 16777000) : mo.cf (n + 1) 12 [.d x, .d x] = .ok (.d (.bool true)) none := by
  rw [cf_eq mo n 12 _ f__law_same rfl]
  have ok := sh_one h h1 h2
  refine runF_one (v := .d (.bool true)) rfl rfl rfl rfl rfl ?_
  simp [ok]
theorem c_isr {a b : Int} (hb : Bd 8000 b) : mo.cf (n + 2) 2 [.d (.tuple [.int a, .int b])] = .ok (.d (.bool (decide (1 ≤ b) && decide (Int.gcd a b = 1)))) none := by
  rw [cf_eq mo (n + 1) 2 _ f_is_ratio rfl]
  refine runF_one (v := .d (.bool (decide (1 ≤ b) && decide (Int.gcd a b = 1)))) rfl rfl rfl rfl rfl ?_
  by_cases h : 1 ≤ b
  · simp [h, c_divisor n a b (hb.mono (by omega))]
    omega
  · simp [h]
end
end K01
/-! k01, plain: sums, the stream, what is drawn. -/
namespace K01
open PySem Wd
abbrev zR : PyData := .tuple [.int 0, .int 1]
theorem zR_rt : Rt 1 zR := ⟨0, 1, rfl, by unfold Bd; decide, by decide, by unfold Bd; decide, by decide⟩
def sumD (xs : List PyData) : PyData := xs.foldl plD zR
theorem fold_rt {k : Nat} : ∀ (xs : List PyData) (l : Nat) (a : PyData), Rt l a → (∀ x ∈ xs, Rt k x) → Rt (l + (k + 1) * xs.length) (xs.foldl plD a)
  | [], l, a, h, _ => h
  | x :: xs, l, a, h, hx => by
    have z := fold_rt xs _ _ (pl_rt h (hx x List.mem_cons_self)) fun y hy => hx y (List.mem_cons_of_mem _ hy)
    refine z.mono ?_
    rw [List.length_cons, Nat.mul_succ]
    omega
theorem sum_rt {xs : List PyData} (h : ∀ x ∈ xs, Rt 60 x) (hl : xs.length ≤ 64) : Rt 4000 (sumD xs) := (fold_rt xs 1 zR zR_rt h).mono (by omega)
theorem sum_loop (O : Orc) (f : Nat) (hf : ∀ x y k l, Rt k x → Rt l y → k + l < 7000 → O.cf f [.d x, .d y] = .ok (.d (plD x y)) none) (xs : List PyData) (h : ∀ x ∈ xs, Rt 60 x) (hl : xs.length ≤ 64) :
    ∃ o, exS O (.fors (.name 2) (.data (.var 0)) (.cons (.set 1 (.call f (.cons (.var 1) (.cons (.var 2) .nil)))) .nil)) [some (.d (.list xs)), some (.d zR), none] = .ok .nx [some (.d (.list xs)), some (.d (sumD xs)), o] := by
  obtain ⟨e, h1, o, rfl⟩ := forL_run (g := .name 2) (body := exSs O (.cons (.set 1 (.call f (.cons (.var 1) (.cons (.var 2) .nil)))) .nil)) (fun i e => ∃ o, e = [some (.d (.list xs)), some (.d (sumD (xs.take i))), o]) (fun e => ∃ o, e = [some (.d (.list xs)), some (.d (sumD xs)), o]) xs 0 [some (.d (.list xs)), some (.d zR), none] ⟨none, rfl⟩ (fun i x e hx he => by
      obtain ⟨o, rfl⟩ := he
      rw [Nat.zero_add]
      have r1 : Rt 4000 (sumD (xs.take i)) := sum_rt (fun y hy => h y (List.mem_of_mem_take hy)) (Nat.le_trans (List.length_take_le' i xs) hl)
      have r2 : Rt 60 x := h x (List.mem_of_getElem? hx)
      refine ⟨_, [some (.d (.list xs)), some (.d (sumD (xs.take (i + 1)))), some (.d x)], .nx, rfl, ?_, .inl ⟨.inl rfl, _, rfl⟩⟩
      have e1 : sumD (xs.take (i + 1)) = plD (sumD (xs.take i)) x := fold_take plD zR hx
      rw [e1]
      simp [hf _ _ _ _ r1 r2 (by omega)]) (fun e he => by
      obtain ⟨o, rfl⟩ := he
      rw [Nat.zero_add, List.take_length]
      exact ⟨o, rfl⟩)
  refine ⟨o, ?_⟩
  rw [x_fors]
  simp
  exact h1
section
variable (n : Nat)
theorem c_summed (xs : List PyData) (h : ∀ x ∈ xs, Rt 60 x) (hl : xs.length ≤ 64) : mo.cf (n + 4) 9 [.d (.list xs)] = .ok (.d (sumD xs)) none := by
  rw [cf_eq mo (n + 3) 9 _ f_summed rfl]
  obtain ⟨o, ho⟩ := sum_loop { cf := mo.cf (n + 3), glo := mo.gl } 3 (fun x y k l hx hy hk => c_added n hx hy hk) xs h hl
  refine (runF_ret (v := .d (sumD xs)) (e0 := [some (.d (.list xs)), none, none]) (e := [some (.d (.list xs)), some (.d (sumD xs)), o]) rfl rfl rfl (run_cons (e1 := [some (.d (.list xs)), some (.d zR), none]) ?_ (run_cons ho (run_ret ?_)))).trans rfl
  · simp
  · simp
theorem c_lsum (xs : List PyData) (h : ∀ x ∈ xs, Rt 60 x) (hl : xs.length ≤ 64) : mo.cf (n + 4) 18 [.d (.list xs)] = .ok (.d (sumD xs)) none := by
  rw [cf_eq mo (n + 3) 18 _ f__law_sum rfl]
  obtain ⟨o, ho⟩ := sum_loop { cf := mo.cf (n + 3), glo := mo.gl } 17 (fun x y k l hx hy hk => c_lplus n hx hy hk) xs h hl
  refine (runF_ret (v := .d (sumD xs)) (e0 := [some (.d (.list xs)), none, none]) (e := [some (.d (.list xs)), some (.d (sumD xs)), o]) rfl rfl rfl (run_cons (e1 := [some (.d (.list xs)), some (.d zR), none]) ?_ (run_cons ho (run_ret ?_)))).trans rfl
  · simp
  · simp
def bst (b v : PyData) : PyData := if leD b v then v else b
theorem bst_rt {k : Nat} {b v : PyData} (hb : Rt k b) (hv : Rt k v) : Rt k (bst b v) := by
  unfold bst
  split
  · exact hv
  · exact hb
theorem fbst_rt {k : Nat} : ∀ (xs : List PyData) (b : PyData), Rt k b → (∀ x ∈ xs, Rt k x) → Rt k (xs.foldl bst b)
  | [], b, h, _ => h
  | x :: xs, b, h, hx => fbst_rt xs _ (bst_rt h (hx x List.mem_cons_self)) fun y hy => hx y (List.mem_cons_of_mem _ hy)
theorem c_greatest (x0 : PyData) (xs : List PyData) (h0 : Rt 60 x0) (h : ∀ x ∈ xs, Rt 60 x) : mo.cf (n + 2) 8 [.d (.list (x0 :: xs))] = .ok (.d (xs.foldl bst x0)) none := by
  rw [cf_eq mo (n + 1) 8 _ f_greatest rfl]
  obtain ⟨e, h1, o, rfl⟩ := forL_run (g := .name 2) (body := exSs { cf := mo.cf (n + 1), glo := mo.gl } (.cons (.set 1 (.ife (.tru (.call 7 (.cons (.var 1) (.cons (.var 2) .nil)))) (.var 2) (.var 1))) .nil)) (fun i e => ∃ o, e = [some (.d (.list (x0 :: xs))), some (.d ((xs.take i).foldl bst x0)), o]) (fun e => ∃ o, e = [some (.d (.list (x0 :: xs))), some (.d (xs.foldl bst x0)), o]) xs 0 [some (.d (.list (x0 :: xs))), some (.d x0), none] ⟨none, rfl⟩ (fun i x e hx he => by
      obtain ⟨o, rfl⟩ := he
      rw [Nat.zero_add]
      have r1 : Rt 60 ((xs.take i).foldl bst x0) := fbst_rt _ _ h0 fun y hy => h y (List.mem_of_mem_take hy)
      have r2 : Rt 60 x := h x (List.mem_of_getElem? hx)
      refine ⟨_, [some (.d (.list (x0 :: xs))), some (.d ((xs.take (i + 1)).foldl bst x0)), some (.d x)], .nx, rfl, ?_, .inl ⟨.inl rfl, _, rfl⟩⟩
      rw [fold_take bst x0 hx]
      cases hq : leD ((xs.take i).foldl bst x0) x with
      | true => simp [c_less n r1 r2 (by omega), hq, bst]
      | false => simp [c_less n r1 r2 (by omega), hq, bst]) (fun e he => by
      obtain ⟨o, rfl⟩ := he
      rw [Nat.zero_add, List.take_length]
      exact ⟨o, rfl⟩)
  refine (runF_ret (v := .d (xs.foldl bst x0)) (e0 := [some (.d (.list (x0 :: xs))), none, none]) (e := [some (.d (.list (x0 :: xs))), some (.d (xs.foldl bst x0)), o]) rfl rfl rfl (run_cons (e1 := [some (.d (.list (x0 :: xs))), some (.d x0), none]) ?_ (run_cons (e1 := [some (.d (.list (x0 :: xs))), some (.d (xs.foldl bst x0)), o]) ?_ (run_ret ?_)))).trans rfl
  · simp
  · rw [x_fors]
    have c1 : cutD (x0 :: xs) (some 1) none = xs := cut_from (x0 :: xs) 1 (by simp)
    simp [c1]
    exact h1
  · simp
end
end K01
/-! k01, plain: products in a row, texts, the stream, what is drawn. -/
namespace K01
open PySem Wd
section
variable (n : Nat)
theorem zw_get {xs ys : List PyData} {i : Nat} {p : PyData} (h : (List.zipWith (fun u v => PyData.tuple [u, v]) xs ys)[i]? = some p) : ∃ x y, xs[i]? = some x ∧ ys[i]? = some y ∧ p = .tuple [x, y] ∧ (List.zipWith tiD xs ys)[i]? = some (tiD x y) := by
  obtain ⟨x, y, h1, h2, h3⟩ := zip_get h
  refine ⟨x, y, h1, h2, h3, ?_⟩
  rw [List.getElem?_zipWith, h1, h2]
theorem ti_all {xs ys : List PyData} (hx : ∀ x ∈ xs, Rt 28 x) (hy : ∀ y ∈ ys, Rt 28 y) : ∀ z ∈ List.zipWith tiD xs ys, Rt 60 z := by
  intro z hz
  obtain ⟨i, hi⟩ := List.mem_iff_getElem?.mp hz
  obtain ⟨x, y, h1, h2, rfl⟩ := zip_get hi
  exact (ti_rt (hx x (List.mem_of_getElem? h1)) (hy y (List.mem_of_getElem? h2))).mono (by omega)
theorem c_weighed (xs ys : List PyData) (hx : ∀ x ∈ xs, Rt 28 x) (hy : ∀ y ∈ ys, Rt 28 y) (hl : xs.length ≤ 64) : mo.cf (n + 5) 10 [.d (.list xs), .d (.list ys)] = .ok (.d (sumD (List.zipWith tiD xs ys))) none := by
  rw [cf_eq mo (n + 4) 10 _ f_weighed rfl]
  refine runF_one (v := .d (sumD (List.zipWith tiD xs ys))) (e0 := [some (.d (.list xs)), some (.d (.list ys)), none, none]) rfl rfl rfl rfl rfl ?_
  have hlz : (List.zipWith tiD xs ys).length ≤ 64 := by
    rw [List.length_zipWith]
    omega
  have key : ∃ zs e, lcGo (.tup (.cons (.name 2) (.cons (.name 3) .nil))) [2, 3] (evTs { cf := mo.cf (n + 4), glo := mo.gl } .nil) (elF { cf := mo.cf (n + 4), glo := mo.gl } (.call 5 (.cons (.var 2) (.cons (.var 3) .nil)))) (List.zipWith (fun u v => .tuple [u, v]) xs ys) [] [some (.d (.list xs)), some (.d (.list ys)), none, none] = .ok zs e ∧ e = [some (.d (.list xs)), some (.d (.list ys)), none, none] ∧ zs = (List.zipWith tiD xs ys).take (0 + (List.zipWith (fun u v => PyData.tuple [u, v]) xs ys).length) := by
    refine lcGo_run (fun i acc e => e = [some (.d (.list xs)), some (.d (.list ys)), none, none] ∧ acc = (List.zipWith tiD xs ys).take i) _ 0 [] _ ⟨rfl, rfl⟩ fun i p acc e hp he => ?_
    obtain ⟨rfl, rfl⟩ := he
    rw [Nat.zero_add]
    obtain ⟨x, y, h1, h2, rfl, h3⟩ := zw_get hp
    refine ⟨[some (.d (.list xs)), some (.d (.list ys)), some (.d x), some (.d y)], [some (.d (.list xs)), some (.d (.list ys)), some (.d x), some (.d y)], rfl, .inr ⟨rfl, tiD x y, [some (.d (.list xs)), some (.d (.list ys)), some (.d x), some (.d y)], ?_, ?_, rfl, ?_⟩⟩
    · simp [c_times (n + 1) (hx x (List.mem_of_getElem? h1)) (hy y (List.mem_of_getElem? h2)) (by omega)]
    · have : (1000 : Nat) ≤ sizeLine := by decide
      have := List.length_take_le' i (List.zipWith tiD xs ys)
      omega
    · rw [List.take_succ, h3]
      rfl
  obtain ⟨zs, e, h1, rfl, h3⟩ := key
  have e3 : zs = List.zipWith tiD xs ys := by
    rw [h3, Nat.zero_add, List.length_zipWith, List.take_of_length_le (by rw [List.length_zipWith]; omega)]
  rw [e3] at h1
  simp [o_zip, noOwn, h1, c_summed n _ (ti_all hx hy) hlz]
/-- a ratio's text -/
def txt (a b : Int) : Str := if b = 1 then ((toString a : String) : Str) else ((toString a : String) : Str) ++ ("/" : Str) ++ ((toString b : String) : Str)
theorem c_text {a b : Int} (ha : Bd 1900 a) (hb : Bd 1900 b) : mo.cf (n + 1) 11 [.d (.tuple [.int a, .int b])] = .ok (.d (.str (txt a b))) none := by
  rw [cf_eq mo n 11 _ f_ratio_text rfl]
  refine runF_one (v := .d (.str (txt a b))) (e0 := [some (.d (.tuple [.int a, .int b]))]) rfl rfl rfl rfl rfl ?_
  have l1 := it_len ha
  have l2 := it_len hb
  have sz : sizeLine = 16777216 := by decide
  have c1 : (Str.empty ++ ((toString a : String) : Str)).length ≤ sizeLine := by
    rw [Str.empty_append]
    omega
  have ls : ("/" : Str).length = 1 := by decide +kernel
  have c2 : (((toString a : String) : Str) ++ ("/" : Str)).length ≤ sizeLine := by
    rw [strLen_append]
    omega
  have c3 : (((toString a : String) : Str) ++ ("/" : Str) ++ ((toString b : String) : Str)).length ≤ sizeLine := by
    rw [strLen_append, strLen_append]
    omega
  by_cases h : b = 1
  · simp [h, txt, it_log ha]
  · have c1' : ((toString a : String) : Str).length ≤ sizeLine := by omega
    simp at c1' c2 c3
    simp [h, txt, it_log ha, it_log hb, Str.empty_append, c1', c2, c3]
theorem txt_sh {a b : Int} (ha : Bd 1900 a) (hb : Bd 1900 b) : Sh 0 50000 (.str (txt a b)) := by
  have l1 := it_len ha
  have l2 := it_len hb
  have ls : ("/" : Str).length = 1 := by decide +kernel
  unfold txt
  split
  · exact (Sh.str (chs_of _)).mono (by omega) (by omega)
  · refine (Sh.str (((chs_of _).append (chs_of "/")).append (chs_of _))).mono (by omega) ?_
    rw [strLen_append, strLen_append]
    omega
end
end K01
/-! k01, plain: the stream, what is drawn. -/
namespace K01
open PySem Wd
abbrev iL (L : List Int) : Option DV := some (.own (L.map .int))
theorem app_int (L : List Int) (i : Int) : L.map PyData.int ++ [.int i] = (L ++ [i]).map .int := by simp
theorem pow18 : op2 .pow (.int 10) (.int 18) = some (.d (.int 1000000000000000000)) := by rfl
theorem pow6 : op2 .pow (.int 10) (.int 6) = some (.d (.int 1000000)) := by rfl
theorem dv1009 : divOk 1009 = true := by decide +kernel
theorem sm60 : small62 60 = true := by decide
theorem sm10 : small62 10 = true := by decide
theorem sm12 : small62 12 = true := by decide
theorem lt_sz {n : Nat} (h : n ≤ 10000) : n < sizeLine := by
  have : (10000 : Nat) < sizeLine := by decide
  omega
section
variable (n : Nat)
abbrev Oc : Orc := { cf := mo.cf n, glo := mo.gl }
abbrev sA : Ss := .cons (.app 1 (.bin .mod (.blt .int (.cons (.var 3) .nil)) (.int 1009))) (.cons (.set 3 (.bin .fdiv (.var 3) (.int 1009))) (.cons (.ifs (.cmp .eq (.var 3) (.int 0)) (.cons (.brk) .nil) .nil) .nil))
abbrev sB : Ss := .cons (.set 5 (.bin .mod (.blt .int (.cons (.bin .add (.bin .add (.bin .mul (.var 5) (.int 48271)) (.bin .mul (.int 7) (.var 4))) (.int 11)) .nil)) (.int 2147483647))) (.cons (.app 1 (.bin .mod (.bin .mod (.blt .int (.cons (.bin .add (.bin .mul (.var 5) (.int 69621)) (.var 4)) .nil)) (.int 2147483629)) (.int 1009))) .nil)
theorem loopA (s c k t : Option DV) (L : List Int) (r : Int) (hl : L.length ≤ 9000) : ∃ L' k' r', exS (Oc n) (.fors (.name 4) (.rng1 (.int 60)) sA) [s, iL L, c, iD r, k, t] = .ok .nx [s, iL L', c, iD r', k', t] ∧ L'.length ≤ L.length + 60 := by
  obtain ⟨e, h1, L', k', r', rfl, h2⟩ := forL_run (g := .name 4) (body := exSs (Oc n) sA) (fun i e => ∃ (L' : List Int) (k' : Option DV) (r' : Int), e = [s, iL L', c, iD r', k', t] ∧ L'.length ≤ L.length + i) (fun e => ∃ (L' : List Int) (k' : Option DV) (r' : Int), e = [s, iL L', c, iD r', k', t] ∧ L'.length ≤ L.length + 60) (rangeD 0 60) 0 [s, iL L, c, iD r, k, t] ⟨L, k, r, rfl, by omega⟩ (fun i x e hx he => by
      obtain ⟨L', k', r', rfl, h2⟩ := he
      obtain ⟨hi, rfl⟩ := range_get hx
      have hz : L'.length < sizeLine := lt_sz (by omega)
      by_cases h0 : r'.fdiv 1009 = 0
      · refine ⟨[s, iL L', c, iD r', iD i, t], [s, iL (L' ++ [r'.fmod 1009]), c, iD (r'.fdiv 1009), iD i, t], .brk, rfl, ?_, .inr ⟨rfl, _, _, _, rfl, by rw [List.length_append]; simp; omega⟩⟩
        simp [hz, dv1009, h0]
      · refine ⟨[s, iL L', c, iD r', iD i, t], [s, iL (L' ++ [r'.fmod 1009]), c, iD (r'.fdiv 1009), iD i, t], .nx, rfl, ?_, .inl ⟨.inl rfl, _, _, _, rfl, by rw [List.length_append]; simp; omega⟩⟩
        simp [hz, dv1009, h0]) (fun e he => by
      obtain ⟨L', k', r', rfl, h2⟩ := he
      rw [range_len] at h2
      exact ⟨L', k', r', rfl, by omega⟩)
  refine ⟨L', k', r', ?_, h2⟩
  rw [x_fors]
  simp [sm60]
  exact h1
theorem loopB (s c k r : Option DV) (L : List Int) (t : Int) (hl : L.length ≤ 9000) (ht : Bd 32 t) : ∃ L' k' t', exS (Oc n) (.fors (.name 4) (.rng1 (.int 10)) sB) [s, iL L, c, r, k, iD t] = .ok .nx [s, iL L', c, r, k', iD t'] ∧ L'.length ≤ L.length + 10 := by
  obtain ⟨e, h1, L', k', t', rfl, h2, _⟩ := forL_run (g := .name 4) (body := exSs (Oc n) sB) (fun i e => ∃ (L' : List Int) (k' : Option DV) (t' : Int), e = [s, iL L', c, r, k', iD t'] ∧ L'.length ≤ L.length + i ∧ Bd 32 t') (fun e => ∃ (L' : List Int) (k' : Option DV) (t' : Int), e = [s, iL L', c, r, k', iD t'] ∧ L'.length ≤ L.length + 10 ∧ Bd 32 t') (rangeD 0 10) 0 [s, iL L, c, r, k, iD t] ⟨L, k, t, rfl, by omega, ht⟩ (fun i x e hx he => by
      obtain ⟨L', k', t', rfl, h2, h3⟩ := he
      obtain ⟨hi, rfl⟩ := range_get hx
      have hz : L'.length < sizeLine := lt_sz (by omega)
      have m1 : mulOk t' 48271 = true := h3.mulOk (l := 20) (by unfold Bd; decide) (by omega)
      have m2 : mulOk 7 (i : Int) = true := Bd.mulOk (k := 20) (l := 20) (by unfold Bd; decide) (Bd.of (by omega) (by omega)) (by omega)
      have b2 : Bd 32 ((t' * 48271 + 7 * (i : Int) + 11).fmod 2147483647) := bd_mod (by omega) (by omega)
      have m3 : mulOk ((t' * 48271 + 7 * (i : Int) + 11).fmod 2147483647) 69621 = true := b2.mulOk (l := 20) (by unfold Bd; decide) (by omega)
      generalize hg : (t' * 48271 + 7 * (i : Int) + 11).fmod 2147483647 = u at *
      refine ⟨[s, iL L', c, r, iD i, iD t'], [s, iL (L' ++ [((u * 69621 + i).fmod 2147483629).fmod 1009]), c, r, iD i, iD u], .nx, rfl, ?_, .inl ⟨.inl rfl, _, _, _, rfl, by rw [List.length_append]; simp; omega, b2⟩⟩
      simp [hz, m1, m2, m3, hg]) (fun e he => by
      obtain ⟨L', k', r', rfl, h2, h3⟩ := he
      rw [range_len] at h2
      exact ⟨L', k', r', rfl, by omega, h3⟩)
  refine ⟨L', k', t', ?_, h2⟩
  rw [x_fors]
  simp [sm10]
  exact h1
theorem c_stream (ns : List Int) (hn : ns.length ≤ 63) : ∃ L : List Int, L ≠ [] ∧ L.length ≤ 10000 ∧ mo.cf (n + 1) 13 [.d (.list (ns.map .int))] = .ok (.d (.list (L.map .int))) none := by
  rw [cf_eq mo n 13 _ f__law_stream rfl]
  generalize hS : some (DV.d (.list (ns.map .int))) = s
  obtain ⟨e, h1, L, c, r, k, t, rfl, h2⟩ := forL_run (g := .name 2) (body := exSs (Oc n) (.cons (.set 3 (.blt .abs (.cons (.blt .int (.cons (.var 2) .nil)) .nil))) (.cons (.ifs (.cmp .ge (.var 3) (.bin .pow (.int 10) (.int 18))) (.cons (.fors (.name 4) (.rng1 (.int 60)) sA) .nil) (.cons (.set 5 (.bin .mod (.blt .int (.cons (.var 3) .nil)) (.int 2147483647))) (.cons (.fors (.name 4) (.rng1 (.int 10)) sB) .nil))) .nil)))
      (fun i e => ∃ (L : List Int) (c r k t : Option DV), e = [s, iL L, c, r, k, t] ∧ L.length ≤ 60 * i) (fun e => ∃ (L : List Int) (c r k t : Option DV), e = [s, iL L, c, r, k, t] ∧ L.length ≤ 9000) (ns.map .int) 0 [s, iL [], none, none, none, none] ⟨[], none, none, none, none, rfl, by simp⟩ (fun i x e hx he => by
      obtain ⟨L, c, r, k, t, rfl, h2⟩ := he
      rw [List.getElem?_map, Option.map_eq_some_iff] at hx
      obtain ⟨z, hz, rfl⟩ := hx
      have hi : i < ns.length := (List.getElem?_eq_some_iff.mp hz).1
      by_cases hb : (1000000000000000000 : Int) ≤ (z.natAbs : Int)
      · obtain ⟨L', k', r', h3, h4⟩ := loopA n s (iD z) k t L z.natAbs (by omega)
        refine ⟨[s, iL L, iD z, r, k, t], [s, iL L', iD z, iD r', k', t], .nx, rfl, ?_, .inl ⟨.inl rfl, _, _, _, _, _, rfl, by omega⟩⟩
        refine run_cons (e1 := [s, iL L, iD z, iD z.natAbs, k, t]) ?_ (run_cons (e1 := [s, iL L', iD z, iD r', k', t]) ?_ rfl)
        · simp [absE]
        · rw [x_ifs]
          simp only [x_tcmp, x_var, x_bin, x_int, R.bind_ok, x_res1, x_res2, x_dd, pow18, x_lift, o_ge, List.getElem?_cons_succ, List.getElem?_cons_zero, Option.bind_some, Option.map_some, decide_eq_true hb, if_true]
          exact run_cons h3 rfl
      · obtain ⟨L', k', t', h3, h4⟩ := loopB n s (iD z) k (iD z.natAbs) L ((z.natAbs : Int).fmod 2147483647) (by omega) (bd_mod (by omega) (by omega))
        refine ⟨[s, iL L, iD z, r, k, t], [s, iL L', iD z, iD z.natAbs, k', iD t'], .nx, rfl, ?_, .inl ⟨.inl rfl, _, _, _, _, _, rfl, by omega⟩⟩
        refine run_cons (e1 := [s, iL L, iD z, iD z.natAbs, k, t]) ?_ (run_cons (e1 := [s, iL L', iD z, iD z.natAbs, k', iD t']) ?_ rfl)
        · simp [absE]
        · rw [x_ifs]
          simp only [x_tcmp, x_var, x_bin, x_int, R.bind_ok, x_res1, x_res2, x_dd, pow18, x_lift, o_ge, List.getElem?_cons_succ, List.getElem?_cons_zero, Option.bind_some, Option.map_some, decide_eq_false hb]
          refine run_cons (e1 := [s, iL L, iD z, iD z.natAbs, k, iD ((z.natAbs : Int).fmod 2147483647)]) ?_ (run_cons h3 rfl)
          simp) (fun e he => by
      obtain ⟨L, c, r, k, t, rfl, h2⟩ := he
      rw [List.length_map] at h2
      exact ⟨L, c, r, k, t, rfl, by omega⟩)
  have c1 : cutD (ns.map PyData.int) none (some 63) = ns.map .int := cut_all _ 63 (by rw [List.length_map]; exact hn)
  have st : exS (Oc n) (.fors (.name 2) (.data (.slc (.var 0) .no (.so (.int 63)))) (.cons (.set 3 (.blt .abs (.cons (.blt .int (.cons (.var 2) .nil)) .nil))) (.cons (.ifs (.cmp .ge (.var 3) (.bin .pow (.int 10) (.int 18))) (.cons (.fors (.name 4) (.rng1 (.int 60)) sA) .nil) (.cons (.set 5 (.bin .mod (.blt .int (.cons (.var 3) .nil)) (.int 2147483647))) (.cons (.fors (.name 4) (.rng1 (.int 10)) sB) .nil))) .nil))) [s, iL [], none, none, none, none] = .ok .nx [s, iL L, c, r, k, t] := by
    rw [x_fors]
    subst hS
    simp [c1]
    exact h1
  by_cases h0 : L = []
  · refine ⟨[0], by simp, by simp, (runF_ret (v := .d (.list ([0].map .int))) (e0 := [s, none, none, none, none, none]) (e := [s, some (.d (.list ([0].map .int))), c, r, k, t]) rfl rfl (by rw [← hS]; rfl) (run_cons (e1 := [s, iL [], none, none, none, none]) ?_ (run_cons st (run_cons (e1 := [s, iL [0], c, r, k, t]) ?_ (run_ret ?_))))).trans rfl⟩
    · simp
    · have z : (0 : Nat) < sizeLine := by decide
      simp [h0, z]
    · simp
  · refine ⟨L, h0, by omega, (runF_ret (v := .d (.list (L.map .int))) (e0 := [s, none, none, none, none, none]) (e := [s, some (.d (.list (L.map .int))), c, r, k, t]) rfl rfl (by rw [← hS]; rfl) (run_cons (e1 := [s, iL [], none, none, none, none]) ?_ (run_cons st (run_cons (e1 := [s, iL L, c, r, k, t]) ?_ (run_ret ?_))))).trans rfl⟩
    · simp
    · simp [h0]
    · simp
theorem c_drawn (L : List Int) (j : Int) (hL : L ≠ []) (hz : L.length ≤ 10000) (hj : 0 ≤ j) (hb : j < 900000) : ∃ x, Rt 28 x ∧ mo.cf (n + 3) 20 [.own (St L j)] = .ok (.d x) (some (St L (j + 3))) := by
  obtain ⟨r1, p1, q1, e1⟩ := c_next (n + 1) L j 400 hL hz hj (by omega) (by omega)
  obtain ⟨r2, p2, q2, e2⟩ := c_next (n + 1) L (j + 1) 5 hL hz (by omega) (by omega) (by omega)
  obtain ⟨r3, p3, q3, e3⟩ := c_next (n + 1) L (j + 1 + 1) 60 hL hz (by omega) (by omega) (by omega)
  have ej : j + 1 + 1 + 1 = j + 3 := by omega
  rw [ej] at e3
  rw [cf_eq mo (n + 2) 20 _ f__law_drawn rfl]
  have b1 : Bd 9 (r1 - 200) := Bd.of (by omega) (by omega)
  have b3 : Bd 28 (1 + r3) := Bd.of (by omega) (by omega)
  have n3 : 1 + r3 ≠ 0 := by omega
  by_cases h : r2 = 0
  · have m : mulOk (r1 - 200) 1000000 = true := b1.mulOk (l := 20) (by unfold Bd; decide) (by omega)
    have bm : Bd 28 ((r1 - 200) * 1000000) := Bd.of (by omega) (by omega)
    refine ⟨rT ((r1 - 200) * 1000000) (1 + r3), rT_rt bm b3 n3, (runF_ret (v := .d (rT ((r1 - 200) * 1000000) (1 + r3))) (e0 := [some (.own (St L j)), none]) (e := [some (.own (St L (j + 3))), iD (r1 - 200)]) rfl rfl rfl (run_cons (e1 := [some (.own (St L (j + 1))), iD (r1 - 200)]) ?_ (run_ret ?_))).trans rfl⟩
    · simp [e1]
    · simp [e2, e3, h, pow6, m, c_lratio n _ _ (b3.mono (by omega)) n3]
  · have m : mulOk (r1 - 200) 1 = true := b1.mulOk (l := 20) (by unfold Bd; decide) (by omega)
    have bm : Bd 28 (r1 - 200) := b1.mono (by omega)
    refine ⟨rT (r1 - 200) (1 + r3), rT_rt bm b3 n3, (runF_ret (v := .d (rT (r1 - 200) (1 + r3))) (e0 := [some (.own (St L j)), none]) (e := [some (.own (St L (j + 3))), iD (r1 - 200)]) rfl rfl rfl (run_cons (e1 := [some (.own (St L (j + 1))), iD (r1 - 200)]) ?_ (run_ret ?_))).trans rfl⟩
    · simp [e1]
    · simp [e2, e3, h, pow6, m, c_lratio n _ _ (b3.mono (by omega)) n3]
end
end K01
/-! k01, plain: the law. -/
namespace K01
open PySem Wd
section
variable (n : Nat)
theorem set_back {l : DEnv} {p : Nat} (h : p < l.length) : l.set p ((l[p]?).getD none) = l := by
  rw [List.getElem?_eq_getElem h]
  simp
theorem lc_state (L : List Int) (hL : L ≠ []) (hz : L.length ≤ 10000) (s : Option DV) (rest : DEnv) (p : Nat) (hp : p < rest.length) (xs : List PyData) (hx : xs.length ≤ 100) (j : Int) (hj : 0 ≤ j) (hb : j < 100000) :
    ∃ ys, lcGo (.name (p + 2)) [p + 2] (evTs (Oc (n + 3)) .nil) (elF (Oc (n + 3)) (.callm 20 1 .nil)) xs [] (s :: some (.own (St L j)) :: rest) = .ok ys (s :: some (.own (St L (j + 3 * xs.length))) :: rest) ∧ ys.length = xs.length ∧ ∀ y ∈ ys, Rt 28 y := by
  obtain ⟨ys, e, h1, rfl, h2, h3⟩ := lcGo_run (g := .name (p + 2)) (own := [p + 2]) (tst := evTs (Oc (n + 3)) .nil) (elt := elF (Oc (n + 3)) (.callm 20 1 .nil)) (fun i acc e => e = (s :: some (.own (St L (j + 3 * i))) :: rest) ∧ acc.length = i ∧ ∀ y ∈ acc, Rt 28 y) xs 0 [] (s :: some (.own (St L j)) :: rest) ⟨by simp, rfl, fun y hy => by cases hy⟩ (fun i x acc e hx' he => by
      obtain ⟨rfl, h2, h3⟩ := he
      rw [Nat.zero_add] at *
      have hi : i < xs.length := (List.getElem?_eq_some_iff.mp hx').1
      obtain ⟨y, hy, e1⟩ := c_drawn n L (j + 3 * i) hL hz (by omega) (by omega)
      refine ⟨s :: some (.own (St L (j + 3 * i))) :: (rest.set p none).set p (some (.d x)), s :: some (.own (St L (j + 3 * i))) :: (rest.set p none).set p (some (.d x)), ?_, .inr ⟨rfl, y, s :: some (.own (St L (j + 3 * i + 3))) :: (rest.set p none).set p (some (.d x)), ?_, ?_, ?_, ?_, ?_⟩⟩
      · simp [wipeD, hp]
      · simp [e1]
      · exact lt_sz (by omega)
      · have e2 : j + 3 * ((i + 1 : Nat) : Int) = j + 3 * i + 3 := by omega
        rw [e2]
        show (s :: some (.own (St L (j + 3 * i + 3))) :: (rest.set p none).set p (some (.d x))).set (p + 2) (((s :: some (.own (St L (j + 3 * i))) :: rest)[p + 2]?).getD none) = _
        rw [List.getElem?_cons_succ, List.getElem?_cons_succ, List.set_cons_succ, List.set_cons_succ, List.set_set, List.set_set, set_back hp]
      · rw [List.length_append, h2]
        rfl
      · intro z hz
        rcases List.mem_append.mp hz with q | q
        · exact h3 z q
        · rw [List.mem_singleton] at q
          rw [q]
          exact hy)
  rw [Nat.zero_add] at *
  exact ⟨ys, h1, h2, h3⟩
theorem noOwn_one {e : DEnv} {i : Nat} {x : Option PyData} (h : e[i]? = some (x.map DV.d)) : noOwn e [i] = true := by
  cases x <;> simp [noOwn, h]
theorem rt_sh {k : Nat} {x : PyData} (h : Rt k x) (hk : k ≤ 1900) : Sh 1 4000 x := by
  obtain ⟨a, b, rfl, h1, _, h2, _⟩ := h
  refine (Sh.tuple (d := 0) (n := 1921) fun y hy => ?_).mono (by omega) (by simp)
  simp only [List.mem_cons, List.not_mem_nil, or_false] at hy
  rcases hy with rfl | rfl
  · exact Sh.int (h1.mono hk)
  · exact Sh.int (h2.mono hk)
theorem bl_sh (b : Bool) : Sh 1 4000 (.bool b) := Sh.bool.mono (by omega) (by omega)
theorem leD_self {k : Nat} {x : PyData} (h : Rt k x) : leD x x = false := by
  obtain ⟨a, b, rfl, _⟩ := h
  simp [leD]
/-- best and total, in a row -/
abbrev sC : Ss := .cons (.set 10 (.idx (.lst (.cons (.var 10) (.cons (.idx (.var 7) (.var 12)) .nil))) (.blt .int (.cons (.call 19 (.cons (.var 10) (.cons (.idx (.var 7) (.var 12)) .nil))) .nil)))) (.cons (.set 11 (.call 17 (.cons (.var 11) (.cons (.call 16 (.cons (.bin .mul (.idx (.idx (.var 7) (.var 12)) (.int 0)) (.idx (.idx (.var 8) (.var 12)) (.int 0))) (.cons (.bin .mul (.idx (.idx (.var 7) (.var 12)) (.int 1)) (.idx (.idx (.var 8) (.var 12)) (.int 1))) .nil))) .nil)))) .nil)
theorem loopC (a0 a1 a2 a3 a4 a5 a6 a9 a13 a14 : Option DV) (k0 : Option PyData) (x0 : PyData) (xs ys : List PyData) (hx : ∀ x ∈ x0 :: xs, Rt 28 x) (hy : ∀ y ∈ ys, Rt 28 y) (hl : ys.length = (x0 :: xs).length) (hs : (x0 :: xs).length ≤ 20) :
    ∃ k : Option PyData, exS (Oc (n + 3)) (.fors (.name 12) (.rng1 (.blt .len (.cons (.var 7) .nil))) sC) [a0, a1, a2, a3, a4, a5, a6, some (.d (.list (x0 :: xs))), some (.own ys), a9, some (.d x0), some (.d zR), k0.map DV.d, a13, a14] = .ok .nx [a0, a1, a2, a3, a4, a5, a6, some (.d (.list (x0 :: xs))), some (.own ys), a9, some (.d (xs.foldl bst x0)), some (.d (sumD (List.zipWith tiD (x0 :: xs) ys))), k.map DV.d, a13, a14] := by
  have hm : (x0 :: xs).length ≤ 1000000 := by omega
  generalize hR : x0 :: xs = rs at *
  have hx0 : Rt 28 x0 := hx x0 (by rw [← hR]; exact List.mem_cons_self)
  obtain ⟨e, h1, k, rfl⟩ := forL_run (g := .name 12) (body := exSs (Oc (n + 3)) sC) (fun i e => ∃ k : Option PyData, e = [a0, a1, a2, a3, a4, a5, a6, some (.d (.list rs)), some (.own ys), a9, some (.d ((rs.take i).foldl bst x0)), some (.d (((List.zipWith tiD rs ys).take i).foldl plD zR)), k.map DV.d, a13, a14])
      (fun e => ∃ k : Option PyData, e = [a0, a1, a2, a3, a4, a5, a6, some (.d (.list rs)), some (.own ys), a9, some (.d (xs.foldl bst x0)), some (.d (sumD (List.zipWith tiD rs ys))), k.map DV.d, a13, a14]) (rangeD 0 rs.length) 0 [a0, a1, a2, a3, a4, a5, a6, some (.d (.list rs)), some (.own ys), a9, some (.d x0), some (.d zR), k0.map DV.d, a13, a14] ⟨k0, rfl⟩ (fun i x e hi0 he => by
      obtain ⟨k, rfl⟩ := he
      rw [Nat.zero_add]
      obtain ⟨hi, rfl⟩ := range_get hi0
      obtain ⟨r, hr⟩ : ∃ r, rs[i]? = some r := ⟨_, List.getElem?_eq_getElem hi⟩
      obtain ⟨m, hm'⟩ : ∃ m, ys[i]? = some m := ⟨_, List.getElem?_eq_getElem (by omega)⟩
      have hz : (List.zipWith tiD rs ys)[i]? = some (tiD r m) := by rw [List.getElem?_zipWith, hr, hm']
      have r1 : Rt 28 r := hx r (List.mem_of_getElem? hr)
      have r2 : Rt 28 m := hy m (List.mem_of_getElem? hm')
      have rb : Rt 28 ((rs.take i).foldl bst x0) := fbst_rt _ _ hx0 fun y hy => hx y (List.mem_of_mem_take hy)
      have rt : Rt 4000 (((List.zipWith tiD rs ys).take i).foldl plD zR) := sum_rt (xs := (List.zipWith tiD rs ys).take i) (fun y hy' => ti_all hx hy y (List.mem_of_mem_take hy')) (by
        have := List.length_take_le' i (List.zipWith tiD rs ys)
        rw [List.length_zipWith] at this
        omega)
      have rm : Rt 56 (tiD r m) := ti_rt r1 r2
      refine ⟨_, [a0, a1, a2, a3, a4, a5, a6, some (.d (.list rs)), some (.own ys), a9, some (.d ((rs.take (i + 1)).foldl bst x0)), some (.d (((List.zipWith tiD rs ys).take (i + 1)).foldl plD zR)), (some (.int i)).map DV.d, a13, a14], .nx, rfl, ?_, .inl ⟨.inl rfl, some (.int i), rfl⟩⟩
      rw [fold_take bst x0 hr, fold_take plD zR hz]
      have g1 : L2.atI rs (i : Int) = some r := by rw [at_nat _ hi, hr]
      have g2 : L2.atI ys (i : Int) = some m := by rw [at_nat _ (by omega), hm']
      have cp := c_lplus n rt rm (by omega)
      have cl := c_lless (n + 2) rb r1 (by omega)
      generalize (rs.take i).foldl bst x0 = b at *
      generalize ((List.zipWith tiD rs ys).take i).foldl plD zR = t at *
      refine run_cons (e1 := [a0, a1, a2, a3, a4, a5, a6, some (.d (.list rs)), some (.own ys), a9, some (.d (bst b r)), some (.d t), iD i, a13, a14]) ?_ (run_cons (e1 := [a0, a1, a2, a3, a4, a5, a6, some (.d (.list rs)), some (.own ys), a9, some (.d (bst b r)), some (.d (plD t (tiD r m))), iD i, a13, a14]) ?_ rfl)
      · cases hq : leD b r with
        | true => simp [g1, cl, hq, bst]
        | false => simp [g1, cl, hq, bst]
      · obtain ⟨a, b', rfl, u1, u2, u3, _⟩ := r1
        obtain ⟨c, d, rfl, v1, v2, v3, _⟩ := r2
        have m1 := u1.mulOk v1 (by omega)
        have m2 := u3.mulOk v3 (by omega)
        have cr := c_lratio (n + 1) (a * c) (b' * d) ((u3.mul v3).mono (by omega)) (mul_ne u2 v2)
        have et : tiD (.tuple [.int a, .int b']) (.tuple [.int c, .int d]) = rT (a * c) (b' * d) := rfl
        rw [et] at cp ⊢
        simp [g1, g2, m1, m2, cr, cp]) (fun e he => by
      obtain ⟨k, rfl⟩ := he
      rw [Nat.zero_add, range_len]
      refine ⟨k, ?_⟩
      have e1 : (rs.take rs.length).foldl bst x0 = xs.foldl bst x0 := by
        rw [List.take_length, ← hR, List.foldl_cons]
        have : bst x0 x0 = x0 := by unfold bst; rw [leD_self hx0]; rfl
        rw [this]
      have e2 : (List.zipWith tiD rs ys).take rs.length = List.zipWith tiD rs ys := List.take_of_length_le (by rw [List.length_zipWith]; omega)
      rw [e1, e2]
      rfl)
  refine ⟨k, ?_⟩
  rw [x_fors, i_len (rs := rs) rfl hm, R.bind_ok]
  exact h1
end
end K01
/-! k01, plain: the law, turn by turn. -/
namespace K01
open PySem Wd
section
variable (n : Nat)
abbrev sT : Option DV → List Int → Int → DEnv → DEnv := fun s L j r => s :: some (.own (St L j)) :: r
theorem s_top (s : Option DV) (L : List Int) (hL : L ≠ []) (hz : L.length ≤ 10000) (j : Int) (hj : 0 ≤ j) (hb : j < 90000) (x2 x3 : Option DV) (r : DEnv) :
    ∃ t, Bd 10 t ∧ exS (Oc (n + 5)) (.set 3 (.bin .sub (.callm 14 1 (.cons (.int 900) .nil)) (.int 450))) (sT s L j (x2 :: x3 :: r)) = .ok .nx (sT s L (j + 1) (x2 :: iD t :: r)) := by
  obtain ⟨r1, p1, q1, e1⟩ := c_next (n + 4) L j 900 hL hz hj (by omega) (by omega)
  refine ⟨r1 - 450, Bd.of (by omega) (by omega), ?_⟩
  simp [e1]
theorem s_below (s : Option DV) (L : List Int) (hL : L ≠ []) (hz : L.length ≤ 10000) (j : Int) (hj : 0 ≤ j) (hb : j < 90000) (x2 x3 x4 : Option DV) (r : DEnv) :
    ∃ b, Bd 8 b ∧ b ≠ 0 ∧ exS (Oc (n + 5)) (.set 4 (.idx (.lst (.cons (.bin .add (.int 1) (.callm 14 1 (.cons (.int 80) .nil))) (.cons (.bin .sub (.bin .sub (.int 0) (.int 1)) (.callm 14 1 (.cons (.int 80) .nil))) .nil))) (.callm 14 1 (.cons (.int 2) .nil)))) (sT s L j (x2 :: x3 :: x4 :: r)) = .ok .nx (sT s L (j + 1 + 1 + 1) (x2 :: x3 :: iD b :: r)) := by
  obtain ⟨r1, p1, q1, e1⟩ := c_next (n + 4) L j 80 hL hz hj (by omega) (by omega)
  obtain ⟨r2, p2, q2, e2⟩ := c_next (n + 4) L (j + 1) 80 hL hz (by omega) (by omega) (by omega)
  obtain ⟨r3, p3, q3, e3⟩ := c_next (n + 4) L (j + 1 + 1) 2 hL hz (by omega) (by omega) (by omega)
  by_cases h : r3 = 0
  · refine ⟨1 + r1, Bd.of (by omega) (by omega), by omega, ?_⟩
    simp [e1, e2, e3, h]
  · have h1 : r3 = 1 := by omega
    refine ⟨-1 - r2, Bd.of (by omega) (by omega), by omega, ?_⟩
    simp [e1, e2, e3, h1]
theorem s_one (s : Option DV) (L : List Int) (hL : L ≠ []) (hz : L.length ≤ 10000) (j : Int) (hj : 0 ≤ j) (hb : j < 90000) (x2 x3 x4 x5 : Option DV) (r : DEnv) :
    ∃ x, Rt 28 x ∧ exS (Oc (n + 5)) (.set 5 (.callm 20 1 .nil)) (sT s L j (x2 :: x3 :: x4 :: x5 :: r)) = .ok .nx (sT s L (j + 3) (x2 :: x3 :: x4 :: some (.d x) :: r)) := by
  obtain ⟨x, hx, e1⟩ := c_drawn (n + 2) L j hL hz hj (by omega)
  exact ⟨x, hx, by simp [e1]⟩
theorem s_other (s : Option DV) (L : List Int) (hL : L ≠ []) (hz : L.length ≤ 10000) (j : Int) (hj : 0 ≤ j) (hb : j < 90000) (x2 x3 x4 x5 x6 : Option DV) (r : DEnv) :
    ∃ x, Rt 28 x ∧ exS (Oc (n + 5)) (.set 6 (.callm 20 1 .nil)) (sT s L j (x2 :: x3 :: x4 :: x5 :: x6 :: r)) = .ok .nx (sT s L (j + 3) (x2 :: x3 :: x4 :: x5 :: some (.d x) :: r)) := by
  obtain ⟨x, hx, e1⟩ := c_drawn (n + 2) L j hL hz hj (by omega)
  exact ⟨x, hx, by simp [e1]⟩
theorem s_rows (s : Option DV) (L : List Int) (hL : L ≠ []) (hz : L.length ≤ 10000) (j : Int) (hj : 0 ≤ j) (hb : j < 90000) (x2 x3 x4 x5 x6 x7 x8 x9 x10 x11 x13 x14 : Option DV) (k : Option PyData) :
    ∃ (y0 : PyData) (ys : List PyData) (j' : Int), (∀ y ∈ y0 :: ys, Rt 28 y) ∧ (y0 :: ys).length ≤ 5 ∧ j ≤ j' ∧ j' ≤ j + 16 ∧ exS (Oc (n + 5)) (.set 7 (.lc (.callm 20 1 .nil) (.name 12) (.rng1 (.bin .add (.int 1) (.callm 14 1 (.cons (.int 5) .nil)))) .nil [12])) (sT s L j [x2, x3, x4, x5, x6, x7, x8, x9, x10, x11, k.map DV.d, x13, x14]) = .ok .nx (sT s L j' [x2, x3, x4, x5, x6, some (.own (y0 :: ys)), x8, x9, x10, x11, k.map DV.d, x13, x14]) := by
  obtain ⟨r1, p1, q1, e1⟩ := c_next (n + 4) L j 5 hL hz hj (by omega) (by omega)
  have hr : evI (Oc (n + 5)) (.rng1 (.bin .add (.int 1) (.callm 14 1 (.cons (.int 5) .nil)))) (sT s L j [x2, x3, x4, x5, x6, x7, x8, x9, x10, x11, k.map DV.d, x13, x14]) = .ok (rangeD 0 (1 + r1).toNat) (sT s L (j + 1) [x2, x3, x4, x5, x6, x7, x8, x9, x10, x11, k.map DV.d, x13, x14]) := by
    refine i_rng (by simp [e1]) ?_
    have := sm_few (n := (1 + r1).toNat) (by omega)
    rw [show (((1 + r1).toNat : Nat) : Int) = 1 + r1 by omega] at this
    exact this
  obtain ⟨zs, h1, h2, h3⟩ := lc_state (n + 2) L hL hz s [x2, x3, x4, x5, x6, x7, x8, x9, x10, x11, k.map DV.d, x13, x14] 10 (by simp) (rangeD 0 (1 + r1).toNat) (by rw [range_len]; omega) (j + 1) (by omega) (by omega)
  rw [range_len] at h2
  have hno : noOwn (sT s L (j + 1) [x2, x3, x4, x5, x6, x7, x8, x9, x10, x11, k.map DV.d, x13, x14]) [12] = true := noOwn_one (x := k) rfl
  obtain ⟨y0, ys, rfl⟩ : ∃ y0 ys, zs = y0 :: ys := by
    cases zs with
    | nil =>
      simp at h2
      omega
    | cons y0 ys => exact ⟨y0, ys, rfl⟩
  refine ⟨y0, ys, j + 1 + 3 * ((rangeD 0 (1 + r1).toNat).length : Int), h3, by omega, by omega, by rw [range_len]; omega, ?_⟩
  rw [x_set, x_lc, hr, R.bind_ok, hno, if_pos rfl]
  have h1' : lcGo (.name 12) [12] (evTs (Oc (n + 5)) .nil) (elF (Oc (n + 5)) (.callm 20 1 .nil)) (rangeD 0 (1 + r1).toNat) [] (sT s L (j + 1) [x2, x3, x4, x5, x6, x7, x8, x9, x10, x11, k.map DV.d, x13, x14]) = .ok (y0 :: ys) (sT s L (j + 1 + 3 * ((rangeD 0 (1 + r1).toNat).length : Int)) [x2, x3, x4, x5, x6, x7, x8, x9, x10, x11, k.map DV.d, x13, x14]) := h1
  rw [h1', R.bind_ok, R.bind_ok]
  rfl
theorem s_more (s : Option DV) (L : List Int) (hL : L ≠ []) (hz : L.length ≤ 10000) (j : Int) (hj : 0 ≤ j) (hb : j < 90000) (x2 x3 x4 x5 x6 x8 x9 x10 x11 x12 x13 : Option DV) (xs : List PyData) (hx : xs.length ≤ 5) (k : Option PyData) :
    ∃ (ys : List PyData) (j' : Int), (∀ y ∈ ys, Rt 28 y) ∧ ys.length = xs.length ∧ j ≤ j' ∧ j' ≤ j + 15 ∧ exS (Oc (n + 5)) (.set 8 (.lc (.callm 20 1 .nil) (.name 14) (.data (.var 7)) .nil [14])) (sT s L j [x2, x3, x4, x5, x6, some (.own xs), x8, x9, x10, x11, x12, x13, k.map DV.d]) = .ok .nx (sT s L j' [x2, x3, x4, x5, x6, some (.d (.list xs)), some (.own ys), x9, x10, x11, x12, x13, k.map DV.d]) := by
  have hr : evI (Oc (n + 5)) (.data (.var 7)) (sT s L j [x2, x3, x4, x5, x6, some (.own xs), x8, x9, x10, x11, x12, x13, k.map DV.d]) = .ok xs (sT s L j [x2, x3, x4, x5, x6, some (.d (.list xs)), x8, x9, x10, x11, x12, x13, k.map DV.d]) := rfl
  obtain ⟨zs, h1, h2, h3⟩ := lc_state (n + 2) L hL hz s [x2, x3, x4, x5, x6, some (.d (.list xs)), x8, x9, x10, x11, x12, x13, k.map DV.d] 12 (by simp) xs (by omega) j hj (by omega)
  have hno : noOwn (sT s L j [x2, x3, x4, x5, x6, some (.d (.list xs)), x8, x9, x10, x11, x12, x13, k.map DV.d]) [14] = true := noOwn_one (x := k) rfl
  refine ⟨zs, j + 3 * (xs.length : Int), h3, h2, by omega, by omega, ?_⟩
  rw [x_set, x_lc, hr, R.bind_ok, hno, if_pos rfl]
  have h1' : lcGo (.name 14) [14] (evTs (Oc (n + 5)) .nil) (elF (Oc (n + 5)) (.callm 20 1 .nil)) xs [] (sT s L j [x2, x3, x4, x5, x6, some (.d (.list xs)), x8, x9, x10, x11, x12, x13, k.map DV.d]) = .ok zs (sT s L (j + 3 * (xs.length : Int)) [x2, x3, x4, x5, x6, some (.d (.list xs)), x8, x9, x10, x11, x12, x13, k.map DV.d]) := h1
  rw [h1', R.bind_ok, R.bind_ok]
  rfl
end
end K01
/-! k01, plain: the law's looks. -/
namespace K01
open PySem Wd
section
variable (n : Nat)
theorem all_sh {d z : Nat} {xs : List PyData} (h : ∀ x ∈ xs, Sh d z x) (hd : d ≤ 50) (hz : z ≤ 100000) (hl : xs.length ≤ 10) : Sh 51 1100000 (.list xs) := by
  refine (Sh.list h).mono (by omega) ?_
  have : (z + 2) * xs.length ≤ 100002 * 10 := Nat.mul_le_mul (by omega) hl
  omega
theorem same_l {xs : List PyData} (h : ∀ x ∈ xs, Sh 1 4000 x) (hl : xs.length ≤ 10) : mo.cf (n + 5) 12 [.d (.list xs), .d (.list xs)] = .ok (.d (.bool true)) none := c_same (n + 4) (all_sh h (by omega) (by omega) hl) (by omega) (by omega)
theorem s_chk1 (s x1 x2 : Option DV) (r : DEnv) (t b a c : Int) (ht : Bd 10 t) (hb : Bd 8 b) (hb0 : b ≠ 0) (ha : Bd 28 a) (hc : Bd 28 c) (hc0 : 0 < c) (hg : Int.gcd a c = 1) :
    exS (Oc (n + 5)) (.ifs (.nott (.tru (.call 12 (.cons (.lst (.cons (.call 1 (.cons (.var 3) (.cons (.var 4) .nil))) (.cons (.call 2 (.cons (.var 5) .nil)) (.cons (.call 2 (.cons (.tup (.cons (.bin .mul (.int 2) (.idx (.var 5) (.int 0))) (.cons (.bin .mul (.int 2) (.idx (.var 5) (.int 1))) .nil))) .nil)) (.cons (.call 2 (.cons (.tup (.cons (.int 1) (.cons (.int 0) .nil))) .nil)) (.cons (.call 2 (.cons (.tup (.cons (.int 3) (.cons (.neg (.int 1)) .nil))) .nil)) .nil)))))) (.cons (.lst (.cons (.call 16 (.cons (.var 3) (.cons (.var 4) .nil))) (.cons (.bl true) (.cons (.bl false) (.cons (.bl false) (.cons (.bl false) .nil)))))) .nil))))) (.cons (.ret (.bl false)) .nil) .nil)
      (s :: x1 :: x2 :: iD t :: iD b :: some (.d (.tuple [.int a, .int c])) :: r) = .ok .nx (s :: x1 :: x2 :: iD t :: iD b :: some (.d (.tuple [.int a, .int c])) :: r) := by
  have k1 := c_ratio (n + 3) t b (hb.mono (by omega)) hb0
  have k2 := c_lratio (n + 3) t b (hb.mono (by omega)) hb0
  have i1 : mo.cf (n + 5) 2 [.d (.tuple [.int a, .int c])] = .ok (.d (.bool true)) none := by
    rw [c_isr (n + 3) (hc.mono (by omega)), hg]
    have : decide (1 ≤ c) = true := decide_eq_true (by omega)
    rw [this]
    rfl
  have i2 : mo.cf (n + 5) 2 [.d (.tuple [.int (2 * a), .int (2 * c)])] = .ok (.d (.bool false)) none := by
    rw [c_isr (n + 3) ((Bd.mul (k := 2) (l := 28) (by unfold Bd; decide) hc).mono (by omega)), Int.gcd_mul_left, hg]
    simp
  have i3 : mo.cf (n + 5) 2 [.d (.tuple [.int 1, .int 0])] = .ok (.d (.bool false)) none := c_isr (n + 3) (by unfold Bd; exact Nat.two_pow_pos _)
  have i4 : mo.cf (n + 5) 2 [.d (.tuple [.int 3, .int (-1)])] = .ok (.d (.bool false)) none := by
    rw [c_isr (n + 3) ((show Bd 2 (-1) by unfold Bd; decide).mono (by omega))]
    simp
  have m1 : ∀ z, Bd 1000 z → mulOk 2 z = true := fun z hz => Bd.mulOk (k := 2) (by unfold Bd; decide) hz (by omega)
  have hs := same_l n (xs := [rT t b, .bool true, .bool false, .bool false, .bool false]) (fun x hx => by
    simp only [List.mem_cons, List.not_mem_nil, or_false] at hx
    rcases hx with rfl | rfl | rfl | rfl | rfl
    · exact rt_sh (rT_rt ht (hb.mono (by omega)) hb0) (by omega)
    all_goals exact bl_sh _) (by simp)
  have ma : mulOk 2 a = true := m1 a (ha.mono (by omega))
  have mc : mulOk 2 c = true := m1 c (hc.mono (by omega))
  simp [k1, k2, i1, i2, i3, i4, ma, mc, hs]
theorem s_due (s x1 x2 x3 x4 x7 x8 x9 : Option DV) (r : DEnv) (a b c d : Int) (ha : Bd 28 a) (hb : Bd 28 b) (hc : Bd 28 c) (hd : Bd 28 d) (b0 : 0 < b) (d0 : 0 < d) (g1 : Int.gcd a b = 1) (g2 : Int.gcd c d = 1) :
    exS (Oc (n + 5)) (.set 9 (.lst (.cons (.call 17 (.cons (.var 5) (.cons (.var 6) .nil))) (.cons (.tup (.cons (.bin .sub (.int 0) (.idx (.var 5) (.int 0))) (.cons (.idx (.var 5) (.int 1)) .nil))) (.cons (.call 16 (.cons (.bin .mul (.idx (.var 5) (.int 0)) (.idx (.var 6) (.int 0))) (.cons (.bin .mul (.idx (.var 5) (.int 1)) (.idx (.var 6) (.int 1))) .nil))) (.cons (.call 19 (.cons (.var 5) (.cons (.var 6) .nil))) .nil))))))
      (s :: x1 :: x2 :: x3 :: x4 :: some (.d (.tuple [.int a, .int b])) :: some (.d (.tuple [.int c, .int d])) :: x7 :: x8 :: x9 :: r) = .ok .nx (s :: x1 :: x2 :: x3 :: x4 :: some (.d (.tuple [.int a, .int b])) :: some (.d (.tuple [.int c, .int d])) :: x7 :: x8 :: some (.own [plD (.tuple [.int a, .int b]) (.tuple [.int c, .int d]), .tuple [.int (-a), .int b], tiD (.tuple [.int a, .int b]) (.tuple [.int c, .int d]), .bool (leD (.tuple [.int a, .int b]) (.tuple [.int c, .int d]))]) :: r) := by
  have r1 : Rt 28 (.tuple [.int a, .int b]) := ⟨a, b, rfl, ha, b0, hb, g1⟩
  have r2 : Rt 28 (.tuple [.int c, .int d]) := ⟨c, d, rfl, hc, d0, hd, g2⟩
  have k1 := c_lplus (n + 2) r1 r2 (by omega)
  have k2 := c_lratio (n + 3) (a * c) (b * d) ((hb.mul hd).mono (by omega)) (mul_ne b0 d0)
  have k3 := c_lless (n + 4) r1 r2 (by omega)
  have m1 := ha.mulOk hc (by omega)
  have m2 := hb.mulOk hd (by omega)
  have et : tiD (.tuple [.int a, .int b]) (.tuple [.int c, .int d]) = rT (a * c) (b * d) := rfl
  rw [et]
  simp [k1, k2, k3, m1, m2]
theorem s_chk2 (s x1 x2 x3 x4 x7 x8 : Option DV) (r : DEnv) (a b c d : Int) (ha : Bd 28 a) (hb : Bd 28 b) (hc : Bd 28 c) (hd : Bd 28 d) (b0 : 0 < b) (d0 : 0 < d) (g1 : Int.gcd a b = 1) (g2 : Int.gcd c d = 1) :
    ∃ x9, exS (Oc (n + 5)) (.ifs (.nott (.tru (.call 12 (.cons (.lst (.cons (.call 3 (.cons (.var 5) (.cons (.var 6) .nil))) (.cons (.call 4 (.cons (.var 5) .nil)) (.cons (.call 5 (.cons (.var 5) (.cons (.var 6) .nil))) (.cons (.call 7 (.cons (.var 5) (.cons (.var 6) .nil))) .nil))))) (.cons (.var 9) .nil))))) (.cons (.ret (.bl false)) .nil) .nil)
      (s :: x1 :: x2 :: x3 :: x4 :: some (.d (.tuple [.int a, .int b])) :: some (.d (.tuple [.int c, .int d])) :: x7 :: x8 :: some (.own [plD (.tuple [.int a, .int b]) (.tuple [.int c, .int d]), .tuple [.int (-a), .int b], tiD (.tuple [.int a, .int b]) (.tuple [.int c, .int d]), .bool (leD (.tuple [.int a, .int b]) (.tuple [.int c, .int d]))]) :: r)
       = .ok .nx (s :: x1 :: x2 :: x3 :: x4 :: some (.d (.tuple [.int a, .int b])) :: some (.d (.tuple [.int c, .int d])) :: x7 :: x8 :: x9 :: r) := by
  have r1 : Rt 28 (.tuple [.int a, .int b]) := ⟨a, b, rfl, ha, b0, hb, g1⟩
  have r2 : Rt 28 (.tuple [.int c, .int d]) := ⟨c, d, rfl, hc, d0, hd, g2⟩
  have k1 := c_added (n + 2) r1 r2 (by omega)
  have k2 := c_negative (n + 4) a b
  have k3 := c_times (n + 2) r1 r2 (by omega)
  have k4 := c_less (n + 4) r1 r2 (by omega)
  have hs := same_l n (xs := [plD (.tuple [.int a, .int b]) (.tuple [.int c, .int d]), .tuple [.int (-a), .int b], tiD (.tuple [.int a, .int b]) (.tuple [.int c, .int d]), .bool (leD (.tuple [.int a, .int b]) (.tuple [.int c, .int d]))]) (fun x hx => by
    simp only [List.mem_cons, List.not_mem_nil, or_false] at hx
    rcases hx with rfl | rfl | rfl | rfl
    · exact rt_sh (pl_rt r1 r2) (by omega)
    · exact rt_sh (k := 28) ⟨-a, b, rfl, ha.neg, b0, hb, by rw [Int.neg_gcd]; exact g1⟩ (by omega)
    · exact rt_sh (ti_rt r1 r2) (by omega)
    · exact bl_sh _) (by simp)
  generalize plD (.tuple [.int a, .int b]) (.tuple [.int c, .int d]) = u1 at *
  generalize tiD (.tuple [.int a, .int b]) (.tuple [.int c, .int d]) = u2 at *
  generalize leD (.tuple [.int a, .int b]) (.tuple [.int c, .int d]) = u3 at *
  refine ⟨some (.d (.list [u1, .tuple [.int (-a), .int b], u2, .bool u3])), ?_⟩
  simp [k1, k2, k3, k4, hs]
theorem s_chk3 (s x1 x2 x3 x4 : Option DV) (r : DEnv) (a b c d : Int) (ha : Bd 28 a) (hb : Bd 28 b) (hc : Bd 28 c) (hd : Bd 28 d) (b0 : 0 < b) (d0 : 0 < d) :
    exS (Oc (n + 5)) (.ifs (.ands (.cons (.cmp .ne (.idx (.var 6) (.int 0)) (.int 0)) (.cons (.nott (.tru (.call 12 (.cons (.call 6 (.cons (.var 5) (.cons (.var 6) .nil))) (.cons (.call 16 (.cons (.bin .mul (.idx (.var 5) (.int 0)) (.idx (.var 6) (.int 1))) (.cons (.bin .mul (.idx (.var 5) (.int 1)) (.idx (.var 6) (.int 0))) .nil))) .nil))))) .nil))) (.cons (.ret (.bl false)) .nil) .nil)
      (s :: x1 :: x2 :: x3 :: x4 :: some (.d (.tuple [.int a, .int b])) :: some (.d (.tuple [.int c, .int d])) :: r) = .ok .nx (s :: x1 :: x2 :: x3 :: x4 :: some (.d (.tuple [.int a, .int b])) :: some (.d (.tuple [.int c, .int d])) :: r) := by
  by_cases h : c = 0
  · simp [h]
  · have bc : b * c ≠ 0 := Int.mul_ne_zero (by omega) h
    have k1 := c_over (n + 2) ha hb hc hd b0 h (by omega)
    have k2 := c_lratio (n + 3) (a * d) (b * c) ((hb.mul hc).mono (by omega)) bc
    have m1 := ha.mulOk hd (by omega)
    have m2 := hb.mulOk hc (by omega)
    have hs : mo.cf (n + 5) 12 [.d (rT (a * d) (b * c)), .d (rT (a * d) (b * c))] = .ok (.d (.bool true)) none := c_same (n + 4) (rt_sh (rT_rt (ha.mul hd) (hb.mul hc) bc) (by omega)) (by omega) (by omega)
    simp [h, k1, k2, m1, m2, hs]
theorem s_chk4 (s x1 x2 x3 x4 x5 x6 x9 : Option DV) (r : DEnv) (y0 : PyData) (ys zs : List PyData) (hy : ∀ y ∈ y0 :: ys, Rt 28 y) (hz : ∀ y ∈ zs, Rt 28 y) (hl : (y0 :: ys).length ≤ 5) :
    ∃ x8, exS (Oc (n + 5)) (.ifs (.nott (.tru (.call 12 (.cons (.lst (.cons (.call 8 (.cons (.var 7) .nil)) (.cons (.call 9 (.cons (.var 7) .nil)) (.cons (.call 10 (.cons (.var 7) (.cons (.var 8) .nil))) .nil)))) (.cons (.lst (.cons (.var 10) (.cons (.call 18 (.cons (.var 7) .nil)) (.cons (.var 11) .nil)))) .nil))))) (.cons (.ret (.bl false)) .nil) .nil)
      (s :: x1 :: x2 :: x3 :: x4 :: x5 :: x6 :: some (.d (.list (y0 :: ys))) :: some (.own zs) :: x9 :: some (.d (ys.foldl bst y0)) :: some (.d (sumD (List.zipWith tiD (y0 :: ys) zs))) :: r) = .ok .nx (s :: x1 :: x2 :: x3 :: x4 :: x5 :: x6 :: some (.d (.list (y0 :: ys))) :: x8 :: x9 :: some (.d (ys.foldl bst y0)) :: some (.d (sumD (List.zipWith tiD (y0 :: ys) zs))) :: r) := by
  have h60 : ∀ y ∈ y0 :: ys, Rt 60 y := fun y q => (hy y q).mono (by omega)
  have k1 := c_greatest (n + 3) y0 ys (h60 y0 List.mem_cons_self) fun y q => h60 y (List.mem_cons_of_mem _ q)
  have k2 := c_summed (n + 1) (y0 :: ys) h60 (by omega)
  have k3 := c_weighed n (y0 :: ys) zs hy hz (by omega)
  have k4 := c_lsum (n + 1) (y0 :: ys) h60 (by omega)
  have t1 : Rt 28 (ys.foldl bst y0) := fbst_rt ys y0 (hy y0 List.mem_cons_self) fun y q => hy y (List.mem_cons_of_mem _ q)
  have t2 : Rt 400 (sumD (y0 :: ys)) := (fold_rt (y0 :: ys) 1 zR zR_rt h60).mono (by omega)
  have t3 : Rt 400 (sumD (List.zipWith tiD (y0 :: ys) zs)) := (fold_rt (List.zipWith tiD (y0 :: ys) zs) 1 zR zR_rt (ti_all hy hz)).mono (by
    have : (List.zipWith tiD (y0 :: ys) zs).length ≤ 5 := by
      rw [List.length_zipWith]
      omega
    omega)
  have hs := same_l n (xs := [ys.foldl bst y0, sumD (y0 :: ys), sumD (List.zipWith tiD (y0 :: ys) zs)]) (fun x hx => by
    simp only [List.mem_cons, List.not_mem_nil, or_false] at hx
    rcases hx with rfl | rfl | rfl
    · exact rt_sh t1 (by omega)
    · exact rt_sh t2 (by omega)
    · exact rt_sh t3 (by omega)) (by simp)
  generalize hR : y0 :: ys = rs at *
  generalize ys.foldl bst y0 = u1 at *
  generalize sumD (List.zipWith tiD rs zs) = u2 at *
  generalize sumD rs = u3 at *
  refine ⟨some (.d (.list zs)), ?_⟩
  simp [k1, k2, k3, k4, hs]
theorem s_text (s x1 x2 x3 x4 x6 x7 x8 x9 x10 x11 x12 x13 : Option DV) (r : DEnv) (a b : Int) (ha : Bd 28 a) (hb : Bd 28 b) :
    exSs (Oc (n + 5)) (.cons (.set 13 (.blt .str (.cons (.idx (.var 5) (.int 0)) .nil))) (.cons (.ifs (.cmp .ne (.idx (.var 5) (.int 1)) (.int 1)) (.cons (.set 13 (.bin .add (.bin .add (.var 13) (.str "/")) (.blt .str (.cons (.idx (.var 5) (.int 1)) .nil)))) .nil) .nil) (.cons (.ifs (.nott (.tru (.call 12 (.cons (.call 11 (.cons (.var 5) .nil)) (.cons (.var 13) .nil))))) (.cons (.ret (.bl false)) .nil) .nil) .nil)))
      (s :: x1 :: x2 :: x3 :: x4 :: some (.d (.tuple [.int a, .int b])) :: x6 :: x7 :: x8 :: x9 :: x10 :: x11 :: x12 :: x13 :: r) = .ok .nx (s :: x1 :: x2 :: x3 :: x4 :: some (.d (.tuple [.int a, .int b])) :: x6 :: x7 :: x8 :: x9 :: x10 :: x11 :: x12 :: some (.d (.str (txt a b))) :: r) := by
  have k1 := c_text (n + 4) (ha.mono (l := 1900) (by omega)) (hb.mono (l := 1900) (by omega))
  have hs : mo.cf (n + 5) 12 [.d (.str (txt a b)), .d (.str (txt a b))] = .ok (.d (.bool true)) none := c_same (n + 4) (txt_sh (ha.mono (by omega)) (hb.mono (by omega))) (by omega) (by omega)
  have g1 := it_log (ha.mono (l := 1900) (by omega))
  have g2 := it_log (hb.mono (l := 1900) (by omega))
  have l1 := it_len (ha.mono (l := 1900) (by omega))
  have l2 := it_len (hb.mono (l := 1900) (by omega))
  have sz : sizeLine = 16777216 := by decide
  have ls : ("/" : Str).length = 1 := by decide +kernel
  refine run_cons (e1 := s :: x1 :: x2 :: x3 :: x4 :: some (.d (.tuple [.int a, .int b])) :: x6 :: x7 :: x8 :: x9 :: x10 :: x11 :: x12 :: some (.d (.str ((toString a : String) : Str))) :: r) ?_ (run_cons (e1 := s :: x1 :: x2 :: x3 :: x4 :: some (.d (.tuple [.int a, .int b])) :: x6 :: x7 :: x8 :: x9 :: x10 :: x11 :: x12 :: some (.d (.str (txt a b))) :: r) ?_ (run_cons (e1 := s :: x1 :: x2 :: x3 :: x4 :: some (.d (.tuple [.int a, .int b])) :: x6 :: x7 :: x8 :: x9 :: x10 :: x11 :: x12 :: some (.d (.str (txt a b))) :: r) ?_ rfl))
  · simp [g1]
  · by_cases h : b = 1
    · simp [h, txt]
    · have c2 : ((toString a : String) : Str).length + ("/" : Str).length ≤ sizeLine := by omega
      have c3 : (((toString a : String) : Str) ++ ("/" : Str)).length + ((toString b : String) : Str).length ≤ sizeLine := by
        rw [strLen_append]
        omega
      simp at c2 c3
      simp [h, txt, g2, c2, c3]
  · generalize txt a b = u at *
    simp [k1, hs]
end
end K01
/-! k01, plain: the law answers True. -/
namespace K01
open PySem Wd
section
variable (n : Nat)
/-- the loop's body -/
def body : Ss := match f_law.body with
  | .cons _ (.cons (.fors _ _ b) _) => b
  | _ => .nil
theorem body_eq : f_law.body = .cons (.set 1 (.lst (.cons (.call 13 (.cons (.var 0) .nil)) (.cons (.int 0) .nil)))) (.cons (.fors (.name 2) (.rng1 (.int 12)) body) (.cons (.ret (.bl true)) .nil)) := rfl
theorem turn (s : Option DV) (L : List Int) (hL : L ≠ []) (hz : L.length ≤ 10000) (j : Int) (hj : 0 ≤ j) (hb : j < 80000) (x2 x3 x4 x5 x6 x7 x8 x9 x10 x11 x13 : Option DV) (k12 k14 : Option PyData) :
    ∃ (j' : Int) (y2 y3 y4 y5 y6 y7 y8 y9 y10 y11 y13 : Option DV) (l12 l14 : Option PyData), j ≤ j' ∧ j' ≤ j + 100 ∧
      exSs (Oc (n + 5)) body [s, some (.own (St L j)), x2, x3, x4, x5, x6, x7, x8, x9, x10, x11, k12.map DV.d, x13, k14.map DV.d] = .ok .nx [s, some (.own (St L j')), y2, y3, y4, y5, y6, y7, y8, y9, y10, y11, l12.map DV.d, y13, l14.map DV.d] := by
  obtain ⟨t, ht, h1⟩ := s_top n s L hL hz j hj (by omega) x2 x3 [x4, x5, x6, x7, x8, x9, x10, x11, k12.map DV.d, x13, k14.map DV.d]
  obtain ⟨b, hb8, hb0, h2⟩ := s_below n s L hL hz (j + 1) (by omega) (by omega) x2 (iD t) x4 [x5, x6, x7, x8, x9, x10, x11, k12.map DV.d, x13, k14.map DV.d]
  obtain ⟨one, ho, h3⟩ := s_one n s L hL hz (j + 1 + 1 + 1 + 1) (by omega) (by omega) x2 (iD t) (iD b) x5 [x6, x7, x8, x9, x10, x11, k12.map DV.d, x13, k14.map DV.d]
  obtain ⟨other, hother, h4⟩ := s_other n s L hL hz (j + 1 + 1 + 1 + 1 + 3) (by omega) (by omega) x2 (iD t) (iD b) (some (.d one)) x6 [x7, x8, x9, x10, x11, k12.map DV.d, x13, k14.map DV.d]
  obtain ⟨y0, ys, j1, hys, hyl, hj1, hj1', h5⟩ := s_rows n s L hL hz (j + 1 + 1 + 1 + 1 + 3 + 3) (by omega) (by omega) x2 (iD t) (iD b) (some (.d one)) (some (.d other)) x7 x8 x9 x10 x11 x13 (k14.map DV.d) k12
  obtain ⟨zs, j2, hzs, hzl, hj2, hj2', h6⟩ := s_more n s L hL hz j1 (by omega) (by omega) x2 (iD t) (iD b) (some (.d one)) (some (.d other)) x8 x9 x10 x11 (k12.map DV.d) x13 (y0 :: ys) hyl k14
  obtain ⟨a, c, rfl, ha, hc0, hc, hg⟩ := ho
  obtain ⟨a', c', rfl, ha', hc0', hc', hg'⟩ := hother
  have h7 := s_chk1 n s (some (.own (St L j2))) x2 [some (.d (.tuple [.int a', .int c'])), some (.d (.list (y0 :: ys))), some (.own zs), x9, x10, x11, k12.map DV.d, x13, k14.map DV.d] t b a c ht hb8 hb0 ha hc hc0 hg
  have h8 := s_due n s (some (.own (St L j2))) x2 (iD t) (iD b) (some (.d (.list (y0 :: ys)))) (some (.own zs)) x9 [x10, x11, k12.map DV.d, x13, k14.map DV.d] a c a' c' ha hc ha' hc' hc0 hc0' hg hg'
  obtain ⟨x9', h9⟩ := s_chk2 n s (some (.own (St L j2))) x2 (iD t) (iD b) (some (.d (.list (y0 :: ys)))) (some (.own zs)) [x10, x11, k12.map DV.d, x13, k14.map DV.d] a c a' c' ha hc ha' hc' hc0 hc0' hg hg'
  have h10 := s_chk3 n s (some (.own (St L j2))) x2 (iD t) (iD b) [some (.d (.list (y0 :: ys))), some (.own zs), x9', x10, x11, k12.map DV.d, x13, k14.map DV.d] a c a' c' ha hc ha' hc' hc0 hc0'
  obtain ⟨k12', h13⟩ := loopC (n + 2) s (some (.own (St L j2))) x2 (iD t) (iD b) (some (.d (.tuple [.int a, .int c]))) (some (.d (.tuple [.int a', .int c']))) x9' x13 (k14.map DV.d) k12 y0 ys zs hys hzs hzl (by omega)
  obtain ⟨x8', h14⟩ := s_chk4 n s (some (.own (St L j2))) x2 (iD t) (iD b) (some (.d (.tuple [.int a, .int c]))) (some (.d (.tuple [.int a', .int c']))) x9' [k12'.map DV.d, x13, k14.map DV.d] y0 ys zs hys hzs hyl
  have h15 := s_text n s (some (.own (St L j2))) x2 (iD t) (iD b) (some (.d (.tuple [.int a', .int c']))) (some (.d (.list (y0 :: ys)))) x8' x9' (some (.d (ys.foldl bst y0))) (some (.d (sumD (List.zipWith tiD (y0 :: ys) zs)))) (k12'.map DV.d) x13 [k14.map DV.d] a c ha hc
  refine ⟨j2, x2, iD t, iD b, some (.d (.tuple [.int a, .int c])), some (.d (.tuple [.int a', .int c'])), some (.d (.list (y0 :: ys))), x8', x9', some (.d (ys.foldl bst y0)), some (.d (sumD (List.zipWith tiD (y0 :: ys) zs))), some (.d (.str (txt a c))), k12', k14, by omega, by omega, ?_⟩
  refine run_cons h1 (run_cons h2 (run_cons h3 (run_cons h4 (run_cons h5 (run_cons h6 (run_cons h7 (run_cons h8 (run_cons h9 (run_cons h10 (run_cons (e1 := [s, some (.own (St L j2)), x2, iD t, iD b, some (.d (.tuple [.int a, .int c])), some (.d (.tuple [.int a', .int c'])), some (.d (.list (y0 :: ys))), some (.own zs), x9', some (.d y0), x11, k12.map DV.d, x13, k14.map DV.d]) ?_ (run_cons (e1 := [s, some (.own (St L j2)), x2, iD t, iD b, some (.d (.tuple [.int a, .int c])), some (.d (.tuple [.int a', .int c'])), some (.d (.list (y0 :: ys))), some (.own zs), x9', some (.d y0), some (.d zR), k12.map DV.d, x13, k14.map DV.d]) ?_ (run_cons h13 (run_cons h14 h15)))))))))))))
  · simp
  · simp
theorem answers : Answers mo 12 21 := by
  intro ns hn _
  obtain ⟨L, hL, hz, hst⟩ := c_stream 10 ns hn
  rw [cf_eq mo 11 21 _ f_law rfl]
  generalize hS : some (DV.d (.list (ns.map .int))) = s
  obtain ⟨e, h1, j', y2, y3, y4, y5, y6, y7, y8, y9, y10, y11, y13, l12, l14, rfl⟩ := forL_run (g := .name 2) (body := exSs (Oc (6 + 5)) body) (fun i e => ∃ (j : Int) (x2 x3 x4 x5 x6 x7 x8 x9 x10 x11 x13 : Option DV) (k12 k14 : Option PyData), e = [s, some (.own (St L j)), x2, x3, x4, x5, x6, x7, x8, x9, x10, x11, k12.map DV.d, x13, k14.map DV.d] ∧ 0 ≤ j ∧ j ≤ 100 * i)
      (fun e => ∃ (j : Int) (x2 x3 x4 x5 x6 x7 x8 x9 x10 x11 x13 : Option DV) (k12 k14 : Option PyData), e = [s, some (.own (St L j)), x2, x3, x4, x5, x6, x7, x8, x9, x10, x11, k12.map DV.d, x13, k14.map DV.d]) (rangeD 0 12) 0 [s, some (.own (St L 0)), none, none, none, none, none, none, none, none, none, none, none, none, none] ⟨0, none, none, none, none, none, none, none, none, none, none, none, none, none, rfl, by omega, by omega⟩ (fun i x e hi0 he => by
      obtain ⟨j, x2, x3, x4, x5, x6, x7, x8, x9, x10, x11, x13, k12, k14, rfl, q1, q2⟩ := he
      obtain ⟨hi, rfl⟩ := range_get hi0
      rw [Nat.zero_add] at *
      obtain ⟨j', y2, y3, y4, y5, y6, y7, y8, y9, y10, y11, y13, l12, l14, u1, u2, h⟩ := turn 6 s L hL hz j q1 (by omega) (iD i) x3 x4 x5 x6 x7 x8 x9 x10 x11 x13 k12 k14
      exact ⟨_, _, .nx, rfl, h, .inl ⟨.inl rfl, j', y2, y3, y4, y5, y6, y7, y8, y9, y10, y11, y13, l12, l14, rfl, by omega, by omega⟩⟩) (fun e he => by
      obtain ⟨j, x2, x3, x4, x5, x6, x7, x8, x9, x10, x11, x13, k12, k14, rfl, q1, q2⟩ := he
      exact ⟨j, x2, x3, x4, x5, x6, x7, x8, x9, x10, x11, x13, k12, k14, rfl⟩)
  refine (runF_ret (v := .d (.bool true)) (e0 := [s, none, none, none, none, none, none, none, none, none, none, none, none, none, none]) (e := [s, some (.own (St L j')), y2, y3, y4, y5, y6, y7, y8, y9, y10, y11, l12.map DV.d, y13, l14.map DV.d]) rfl rfl (by rw [← hS]; rfl) ?_).trans rfl
  rw [body_eq]
  refine run_cons (e1 := [s, some (.own (St L 0)), none, none, none, none, none, none, none, none, none, none, none, none, none]) ?_ (run_cons (e1 := [s, some (.own (St L j')), y2, y3, y4, y5, y6, y7, y8, y9, y10, y11, l12.map DV.d, y13, l14.map DV.d]) ?_ (run_ret rfl))
  · subst hS
    simp [hst]
  · rw [x_fors]
    rw [i_rng (z := 12) rfl sm12, R.bind_ok]
    exact h1
end
end K01
/-! k01: the head. -/
namespace K01
open PySem L2 PyProof.Rows PySem.Spec Wd
abbrev rowOf : PySem.W.OpenRow := PySem.W.OpenLaw.row PySem.Challenge.rw_wayscounted_k01_ratios
abbrev hk : PySem.W.Hook := He.hookX 4 mo.fa mo.dds [] [] mo.ex
def ob (s : PySem.W.SharedT) : He.AlX := He.obsX 4 mo.fa mo.dds [] [] mo.ex (HandSHeadRun.getT s)
theorem ob_eq (s : PySem.W.SharedT) : ob s = hk.obs s.abs := He.obsX_eq (HandSHeadRun.getT_eq s)
def loose : List Str := ["__name__", "WayError", "NotAllowed", "TooLarge", "Missing", "BadForm", "Broken", "divisor", "ratio", "is_ratio", "added", "negative", "times", "over", "less", "greatest", "summed", "weighed", "ratio_text", "_law_same", "_law_stream", "_law_next", "_law_told", "_law_divisor", "_law_ratio", "_law_plus", "_law_sum", "_law_less", "_law_is_ratio", "_law_drawn"]
theorem run (w : World) : HandSHeadRun.RunEq rowOf (PySem.W.view rowOf.prog [32]) hk ob 60000 loose w := by
  intro os
  kernel_rfl
end K01
open PySem PySem.W PySem.Calls PyProof.Rows
theorem PySem.Challenge.cw_wayscounted_k01_ratios_holds : PySem.Challenge.rw_wayscounted_k01_ratios.Holds := by
  w_on; o_law
  refine HandSHeadRun.head_any (r := K01.rowOf) (q := view K01.rowOf.prog [32]) (H := K01.hk) (ob := K01.ob) (M := 60000) (loose := K01.loose) (d := HandSHeadRun.topDef K01.rowOf.prog 32) (kwd := []) K01.ob_eq
    (by kernel_rfl) (fun s => by kernel_rfl) K01.run (by kernel_rfl) (by kernel_rfl) (by kernel_rfl) (by rfl) (by first | assumption | decide +kernel) (by decide +kernel) ⟨rfl, rfl, rfl, rfl, rfl, by decide +kernel⟩ ?hw ?hc
  case hw => w_witness2
  case hc => exact Wd.law_walk (l := PySem.Challenge.rw_wayscounted_k01_ratios) (n := 12) (i := 21) (m := K01.mo) (dl := K01.d_law) rfl (by kernel_rfl) ⟨rfl, by decide, by decide⟩ K01.mo_ok rfl (by kernel_rfl) rfl K01.answers
