import PyProof.Rows.All
import Wide.All
import OpenK.AllK
import Wide.FinOn
import PySem.Challenge.RW_wayscounted_k04_whole_mountains
import HandS.ForMost
import HandS.ForExc
import HandS.Wide
import HandS.TupAny
import HandS.TupLe
import HandS.CallSlots
import HandS.Lambda
import HandS.EndTab
import HandS.Zip
import HandS.Deep
import HandS.Style
import HandS.Star
import HandS.Text
import HandS.TupMul
import HandS.SetFor
import HandS.ReCall
import KE.KRevSl
import HandS.FStr
import HandS.ExcOwn
import HandS.ExcCtx
import HandS.HotCalls
import HandS.ExcIs
import HandS.Defaults
import HandS.Ends
import HandS.More
import HandS.Head0
import HandS.Head1
import HandS.Head2
import HandS.HeadEnd
import HandS.HeadHook1
import HandS.HeadHook2
import HandS.HeadHook3
import HandS.HeadHook4
import HandS.HeadWalk
import HandS.EndBits
import KE.KStateDown
import KE.SortData
set_option Elab.async false
set_option linter.all false
set_option maxRecDepth 100000
set_option maxHeartbeats 0
/-! Wd 1: the data-level interpreter. -/
namespace Wd
open PySem
/-- what a name or a fresh result is at the data level: a datum that never changes, or a list that one owner may change -/
inductive DV where
  | d (x : PyData)
  | own (xs : List PyData)
def DV.data : DV → PyData
  | .d x => x
  | .own xs => .list xs
abbrev DEnv := List (Option DV)
/-- a value told at once, or what stands in a slot -/
inductive PV where
  | val (v : DV)
  | slot (i : Nat)
inductive R (α : Type) where
  | ok (a : α) (e : DEnv)
  | exc (k : Nat)
  | bad
def R.bind {α β : Type} : R α → (α → DEnv → R β) → R β
  | .ok a e, f => f a e
  | .exc k, _ => .exc k
  | .bad, _ => .bad
@[simp] theorem R.bind_ok {α β : Type} (a : α) (e : DEnv) (f : α → DEnv → R β) : (R.ok a e).bind f = f a e := rfl
@[simp] theorem R.bind_exc {α β : Type} (k : Nat) (f : α → DEnv → R β) : (R.exc k : R α).bind f = .exc k := rfl
@[simp] theorem R.bind_bad {α β : Type} (f : α → DEnv → R β) : (R.bad : R α).bind f = .bad := rfl
/-- a call's answer: a value (and what the changed first argument holds then), an exception, or nothing known -/
inductive CA where
  | ok (v : DV) (back : Option (List PyData))
  | exc (k : Nat)
  | bad
inductive Op2 where
  | add | sub | mul | fdiv | mod | pow
  deriving DecidableEq
inductive Cm where
  | lt | le | gt | ge | eq | ne | isin | notin
  deriving DecidableEq
inductive M1 where
  | join | count
  deriving DecidableEq
inductive ML where
  | count | index
  deriving DecidableEq
inductive Blt where
  | abs | int | len | max | min | sum | all | any | repr | str | tuple | list | sorted
  deriving DecidableEq
mutual
inductive E where
  | var (i : Nat)
  | int (i : Int)
  | str (s : Str)
  | bl (b : Bool)
  | non
  | glo (k : Nat)
  | bin (o : Op2) (a b : E)
  | rep (a b : E)
  | neg (a : E)
  | cmp (o : Cm) (a b : E)
  | chain (o p : Cm) (a b c : E)
  | ands (es : Es)
  | ors (es : Es)
  | nott (a : E)
  | ife (c : T) (a b : E)
  | tup (es : Es)
  | lst (es : Es)
  | idx (a i : E)
  | slc (a : E) (lo hi : Eo)
  | call (f : Nat) (es : Es)
  | callm (f : Nat) (i : Nat) (es : Es)
  | blt (b : Blt) (es : Es)
  | lc (elt : E) (g : Tg) (it : I) (c : Ts) (own : List Nat)
  | fmt (a : E)
  | js (es : Es)
  | told (nm : List Str) (a : E)
  | m1 (m : M1) (a b : E)
  | ml (m : ML) (a b : E)
  | rev (a : E)
inductive Es where
  | nil
  | cons (e : E) (es : Es)
  | star (e : E) (es : Es)
inductive Eo where
  | no
  | so (e : E)
inductive T where
  | tru (e : E)
  | cmp (o : Cm) (a b : E)
  | chain (o p : Cm) (a b c : E)
  | ands (ts : Ts)
  | ors (ts : Ts)
  | nott (t : T)
inductive Ts where
  | nil
  | cons (t : T) (ts : Ts)
inductive I where
  | data (e : E)
  | rng1 (a : E)
  | rng2 (a b : E)
  | enum (es : Es)
  | zip (es : Es)
inductive Tg where
  | name (i : Nat)
  | tup (gs : Tgs)
inductive Tgs where
  | nil
  | cons (g : Tg) (gs : Tgs)
end
inductive Fl where
  | nx
  | ret (v : DV)
  | brk
  | ct
mutual
inductive S where
  | set (i : Nat) (e : E)
  | par (is : List Nat) (es : Es)
  | unp (g : Tg) (e : E)
  | seti (i : Nat) (ix e : E)
  | app (i : Nat) (e : E)
  | ext (i : Nat) (e : E)
  | expr (e : E)
  | ifs (c : T) (a b : Ss)
  | fors (g : Tg) (it : I) (body : Ss)
  | whl (c : T) (body : Ss)
  | ret (e : E)
  | retn
  | rais (k : Nat)
  | brk
  | cont
  | pass
inductive Ss where
  | nil
  | cons (s : S) (ss : Ss)
end
/-! ### values -/
def res : PV → DEnv → Option PyData
  | .val v, _ => some v.data
  | .slot i, e => match e[i]? with
    | some (some v) => some v.data
    | _ => none
/-- the value, never to change from now on -/
def frz : PV → DEnv → Option (PyData × DEnv)
  | .val v, e => some (v.data, e)
  | .slot i, e => match e[i]? with
    | some (some (.d x)) => some (x, e)
    | some (some (.own xs)) => some (.list xs, e.set i (some (.d (.list xs))))
    | _ => none
/-- the value for a name: a fresh list stays its own -/
def tak : PV → DEnv → Option (DV × DEnv)
  | .val v, e => some (v, e)
  | .slot i, e => match e[i]? with
    | some (some (.d x)) => some (.d x, e)
    | some (some (.own xs)) => some (.d (.list xs), e.set i (some (.d (.list xs))))
    | _ => none
/-! ### operations -/
def mulOk (i j : Int) : Bool := decide (i.natAbs.log2 + j.natAbs.log2 < 1000000)
def divOk (j : Int) : Bool := decide (j ≠ 0) && decide (j.natAbs.log2 < 9000)
def op2 : Op2 → PyData → PyData → Option DV
  | .add, .int i, .int j => some (.d (.int (i + j)))
  | .add, .str x, .str y => if x.length + y.length ≤ sizeLine then some (.d (.str (x ++ y))) else none
  | .add, .tuple xs, .tuple ys => if xs.length + ys.length ≤ sizeLine then some (.d (.tuple (xs ++ ys))) else none
  | .add, .list xs, .list ys => if xs.length + ys.length ≤ sizeLine then some (.own (xs ++ ys)) else none
  | .sub, .int i, .int j => some (.d (.int (i - j)))
  | .mul, .int i, .int j => if mulOk i j then some (.d (.int (i * j))) else none
  | .fdiv, .int i, .int j => if divOk j then some (.d (.int (i.fdiv j))) else none
  | .mod, .int i, .int j => if j ≠ 0 then some (.d (.int (i.fmod j))) else none
  | .mul, .str s, .int k => if 2 ≤ k ∧ k ≤ 10000 ∧ 1 ≤ s.length ∧ s.length ≤ 100 then some (.d (.str ⟨(List.replicate k.toNat s.cps).foldl (· ++ ·) #[]⟩)) else none
  | .mul, .tuple xs, .int k => if xs ≠ [] ∧ 2 ≤ k ∧ k ≤ 10000 ∧ xs.length ≤ 100 then some (.d (.tuple (List.replicate k.toNat xs).flatten)) else none
  | .pow, .int i, .int j => if 0 ≤ j ∧ j ≤ 1000000 ∧ i.natAbs < 2 ^ 64 then some (.d (.int (i ^ j.toNat))) else none
  | _, _, _ => none
/-- data whose == the model tells: no dicts, not too deep -/
def eqOk (x y : PyData) : Bool := SeqAt.shaped x && SeqAt.shaped y
def ltOk (x y : PyData) : Bool := PySem.W.alike x y && decide (x.depth ≤ 64) && decide (y.depth ≤ 64)
def dlt (x y : PyData) : Bool := PySem.W.dataLt x y
def eqd : PyData → PyData → Option Bool
  | .str s, .str t => some (decide (s = t))
  | x, y => if eqOk x y then some (PyData.eqv x y) else none
def cm2 : Cm → PyData → PyData → Option Bool
  | .lt, .int i, .int j => some (decide (i < j))
  | .le, .int i, .int j => some (decide (i ≤ j))
  | .gt, .int i, .int j => some (decide (j < i))
  | .ge, .int i, .int j => some (decide (j ≤ i))
  | .eq, x, y => eqd x y
  | .ne, x, y => (eqd x y).map (!·)
  | .isin, x, .list ys => if SeqAt.shaped x && SeqAt.shaped (.list ys) then some (ys.any fun z => PyData.eqv z x) else none
  | .isin, x, .tuple ys => if SeqAt.shaped x && SeqAt.shaped (.tuple ys) then some (ys.any fun z => PyData.eqv z x) else none
  | .notin, x, .tuple ys => if SeqAt.shaped x && SeqAt.shaped (.tuple ys) then some (!ys.any fun z => PyData.eqv z x) else none
  | .notin, x, .list ys => if SeqAt.shaped x && SeqAt.shaped (.list ys) then some (!ys.any fun z => PyData.eqv z x) else none
  | _, _, _ => none
def truth : PyData → Option Bool
  | .none => some false
  | .bool b => some b
  | .int i => some (i != 0)
  | .str y => if y.length ≤ sizeLine then some ((y.length : Int) != 0) else none
  | .list xs => some (!xs.isEmpty)
  | .tuple xs => some (!xs.isEmpty)
  | .dict _ => none
def neg1 : PyData → Option DV
  | .int i => some (.d (.int (-i)))
  | _ => none
def ixd : PyData → PyData → Option DV
  | .list xs, .int i => (L2.atI xs i).map .d
  | .tuple xs, .int i => (L2.atI xs i).map .d
  | .str z, .int i => if z.length ≤ sizeLine then (L2.atI z.cps.toList i).map fun c => .d (.str ⟨#[c]⟩) else none
  | _, _ => none
def cutD (xs : List PyData) (lo hi : Option Int) : List PyData := (xs.drop (HT.sIx xs.length 0 lo)).take (HT.sIx xs.length xs.length hi - HT.sIx xs.length 0 lo)
def slcd : PyData → Option Int → Option Int → Option DV
  | .list xs, lo, hi => some (.own (cutD xs lo hi))
  | .tuple xs, lo, hi => some (.d (.tuple (cutD xs lo hi)))
  | .str z, lo, hi => if z.length ≤ sizeLine then some (.d (.str (L2.cutS z lo hi))) else none
  | _, _, _ => none
def boolsD : List PyData → Option (List Bool)
  | [] => some []
  | .bool b :: r => (boolsD r).map (b :: ·)
  | _ :: _ => none
def intsD : List PyData → Option (List Int)
  | [] => some []
  | .int b :: r => (intsD r).map (b :: ·)
  | _ :: _ => none
def strsD : List PyData → Option (List Str)
  | [] => some []
  | .str b :: r => (strsD r).map (b :: ·)
  | _ :: _ => none
def seqD : PyData → Option (List PyData)
  | .list xs => some xs
  | .tuple xs => some xs
  | _ => none
/-- sep.join(texts) .. -/
def mth1 : M1 → Str → PyData → Option DV
  | .join, a, y => match (seqD y).bind strsD with
    | some ys => if (ys.map (·.length)).sum + ys.length * a.length ≤ 16777216 then some (.d (.str (Txt.join a ys))) else none
    | none => none
  | .count, a, .str b => some (.d (.int (Txt.count a b)))
  | .count, _, _ => none
/-- xs.count(i), xs.index(x) -/
def mthL : ML → PyData → PyData → Option DV
  | .count, .list xs, .int k => (intsD xs).map fun ns => .d (.int (ns.count k : Nat))
  | .index, .list xs, y => if SeqAt.shaped (.list xs) && SeqAt.shaped y then (xs.findIdx? fun z => PyData.eqv z y).map fun j => .d (.int (j : Nat)) else none
  | _, _, _ => none
/-- x[::-1] -/
def revD : PyData → Option DV
  | .list xs => some (.own xs.reverse)
  | .str z => if z.length ≤ sizeLine then some (.d (.str ⟨z.cps.toList.reverse.toArray⟩)) else none
  | _ => none
def minI : Int → List Int → Int
  | m, [] => m
  | m, n :: r => minI (if n < m then n else m) r
def maxI : Int → List Int → Int
  | m, [] => m
  | m, n :: r => maxI (if m < n then n else m) r
/-- texts, intsD, boolsD, None, lists and tuples of such can be shown -/
def showOk (x : PyData) : Bool := x.showable && !x.hasDict && decide (x.depth ≤ 60) && decide (x.shown.length ≤ sizeLine)
def bAbs : List PyData → Option DV
  | [.int i] => some (.d (.int (if i < 0 then -i else i)))
  | _ => none
def bInt : List PyData → Option DV
  | [.int i] => some (.d (.int i))
  | [.bool b] => some (.d (.int (if b then 1 else 0)))
  | _ => none
def bLen : List PyData → Option DV
  | [.list xs] => some (.d (.int xs.length))
  | [.tuple xs] => some (.d (.int xs.length))
  | [.str y] => if y.length ≤ sizeLine then some (.d (.int y.length)) else none
  | _ => none
def bMax : List PyData → Option DV
  | [.int i, .int j] => some (.d (.int (if j > i then j else i)))
  | [.list xs] => match intsD xs with
    | some (n :: r) => some (.d (.int (maxI n r)))
    | _ => none
  | _ => none
def bMin : List PyData → Option DV
  | [.int i, .int j] => some (.d (.int (if j < i then j else i)))
  | [.list xs] => match intsD xs with
    | some (n :: r) => some (.d (.int (minI n r)))
    | _ => none
  | _ => none
def bSum : List PyData → Option DV
  | [.list xs] => (intsD xs).map fun ns => .d (.int ns.sum)
  | [.tuple xs] => (intsD xs).map fun ns => .d (.int ns.sum)
  | _ => none
def bAll : List PyData → Option DV
  | [.list xs] => (boolsD xs).map fun bs => .d (.bool (bs.all id))
  | _ => none
def bAny : List PyData → Option DV
  | [.list xs] => (boolsD xs).map fun bs => .d (.bool (bs.any id))
  | _ => none
def bRepr : List PyData → Option DV
  | [.list xs] => if showOk (.list xs) then some (.d (.str (PyData.shown (.list xs)))) else none
  | _ => none
def bStr : List PyData → Option DV
  | [.int i] => if i.natAbs.log2 < 1920 then some (.d (.str (toString i))) else none
  | _ => none
def bList : List PyData → Option DV
  | [.list xs] => some (.own xs)
  | [.tuple xs] => some (.own xs)
  | _ => none
def bTuple : List PyData → Option DV
  | [.list xs] => some (.d (.tuple xs))
  | [.tuple xs] => some (.d (.tuple xs))
  | _ => none
def bltR : Blt → List PyData → Option DV
  | .abs => bAbs
  | .int => bInt
  | .len => bLen
  | .max => bMax
  | .min => bMin
  | .sum => bSum
  | .all => bAll
  | .any => bAny
  | .repr => bRepr
  | .str => bStr
  | .list => bList
  | .tuple => bTuple
  | .sorted => fun _ => none
def wipeD (e : DEnv) : List Nat → DEnv
  | [] => e
  | v :: vs => (wipeD e vs).set v none
def noOwn (e : DEnv) (own : List Nat) : Bool := own.all fun v => match (e[v]? : Option (Option DV)) with
  | some (some (.own _)) => false
  | _ => true
/-- behind a comprehension: its own slots are as they were -/
def unwipe (e0 e : DEnv) : List Nat → DEnv
  | [] => e
  | v :: vs => (unwipe e0 e vs).set v ((e0[v]?).getD none)
def rangeD (lo : Int) (n : Nat) : List PyData := (List.range n).map fun (i : Nat) => .int (lo + i)
def small62 (i : Int) : Bool := decide (-(2 ^ 62) ≤ i) && decide (i < 2 ^ 62)
def items : PyData → Option (List PyData)
  | .list xs => some xs
  | .tuple xs => some xs
  | .str z => some (z.cps.toList.map fun c => .str ⟨#[c]⟩)
  | _ => none
def enumD : Nat → List PyData → List PyData
  | _, [] => []
  | k, x :: r => .tuple [.int k, x] :: enumD (k + 1) r
def enumOf : List PyData → Option (List PyData)
  | [.list xs] => some (enumD 0 xs)
  | _ => none
def zipOf : List PyData → Option (List PyData)
  | [.list xs, .list ys] => some (List.zipWith (fun u v => .tuple [u, v]) xs ys)
  | [.tuple xs, .tuple ys] => some (List.zipWith (fun u v => .tuple [u, v]) xs ys)
  | _ => none
mutual
def tgs : Tg → List Nat
  | .name i => [i]
  | .tup gs => tgss gs
def tgss : Tgs → List Nat
  | .nil => []
  | .cons g gs => tgs g ++ tgss gs
end
mutual
def bindT : Tg → PyData → DEnv → Option DEnv
  | .name i, x, e => if i < e.length then some (e.set i (some (.d x))) else none
  | .tup gs, .tuple xs, e => bindTs gs xs e
  | .tup _, _, _ => none
def bindTs : Tgs → List PyData → DEnv → Option DEnv
  | .nil, [], e => some e
  | .cons g gs, x :: xs, e => match bindT g x e with
    | some e1 => bindTs gs xs e1
    | none => none
  | _, _, _ => none
end
structure Orc where
  cf : Nat → List DV → CA
  glo : List PyData
  kd : Nat → Nat := fun k => k
def lift1 {α : Type} : Option α → DEnv → R α
  | some v, e => .ok v e
  | none, _ => .bad
/-- own lists hidden -/
def sealV : Option DV → Option DV
  | some (.own _) => none
  | x => x
def sealD (e : DEnv) : DEnv := e.map sealV
/-- what _law_told makes of an answer -/
def toldR (nm : List Str) (e : DEnv) : R PV → R PV
  | .ok p e1 => (match frz p e1 with
    | some (x, _) => .ok (.val (.d (.tuple [.str "told", x]))) e
    | none => .bad)
  | .exc k => (match nm[k]? with
    | some t => .ok (.val (.d (.tuple [.str t]))) e
    | none => .bad)
  | .bad => .bad
def noExc {α : Type} : R α → R α
  | .ok a e => .ok a e
  | _ => .bad
/-- a comprehension's turns -/
def lcGo (g : Tg) (own : List Nat) (tst : DEnv → R Bool) (elt : DEnv → R PyData) : List PyData → List PyData → DEnv → R (List PyData)
  | [], acc, e => .ok acc e
  | x :: r, acc, e => match bindT g x (wipeD e own) with
    | none => .bad
    | some e1 => (noExc (tst e1)).bind fun b e2 => if b then (noExc (elt e2)).bind fun y e3 => if acc.length < sizeLine then lcGo g own tst elt r (acc ++ [y]) (unwipe e e3 own) else .bad else lcGo g own tst elt r acc (unwipe e e2 own)
def forL (g : Tg) (body : DEnv → R Fl) : List PyData → DEnv → R Fl
  | [], e => .ok .nx e
  | x :: r, e => match bindT g x e with
    | none => .bad
    | some e1 => (body e1).bind fun f e2 => match f with
      | .nx => forL g body r e2
      | .ct => forL g body r e2
      | .brk => .ok .nx e2
      | .ret v => .ok (.ret v) e2
def whL (c : DEnv → R Bool) (body : DEnv → R Fl) : Nat → DEnv → R Fl
  | 0, _ => .bad
  | n + 1, e => (c e).bind fun b e1 => if b then (body e1).bind fun f e2 => match f with
      | .nx => whL c body n e2
      | .ct => whL c body n e2
      | .brk => .ok .nx e2
      | .ret v => .ok (.ret v) e2
    else .ok .nx e1
def fuelW : Nat := 1000000000
mutual
def ev (O : Orc) : E → DEnv → R PV
  | .var i, e => match e[i]? with
    | some (some _) => .ok (.slot i) e
    | _ => .bad
  | .int i, e => .ok (.val (.d (.int i))) e
  | .str s, e => .ok (.val (.d (.str s))) e
  | .bl b, e => .ok (.val (.d (.bool b))) e
  | .non, e => .ok (.val (.d .none)) e
  | .glo k, e => lift1 ((O.glo[k]?).map fun x => .val (.d x)) e
  | .bin o a b, e => (ev O a e).bind fun pa e1 => (ev O b e1).bind fun pb e2 => lift1 ((res pa e2).bind fun x => (res pb e2).bind fun y => (op2 o x y).map .val) e2
  | .rep a b, e => (ev O a e).bind fun pa e1 => (ev O b e1).bind fun pb e2 => match pa, res pb e2 with
    | .val (.own xs), some (.int k) => if -(2 ^ 63) ≤ k ∧ k < 2 ^ 63 ∧ xs.length * k.toNat ≤ sizeLine then .ok (.val (.own (List.replicate k.toNat xs).flatten)) e2 else .bad
    | _, _ => .bad
  | .neg a, e => (ev O a e).bind fun pa e1 => lift1 ((res pa e1).bind fun x => (neg1 x).map .val) e1
  | .cmp o a b, e => (ev O a e).bind fun pa e1 => (ev O b e1).bind fun pb e2 => (lift1 ((res pa e2).bind fun x => (res pb e2).bind fun y => cm2 o x y) e2).bind fun k e3 => .ok (.val (.d (.bool k))) e3
  | .chain o p a b c, e => (ev O a e).bind fun pa e1 => (ev O b e1).bind fun pb e2 => (lift1 ((res pa e2).bind fun x => (res pb e2).bind fun y => cm2 o x y) e2).bind fun k e2 => if k then (ev O c e2).bind fun pc e3 => (lift1 ((res pb e3).bind fun y => (res pc e3).bind fun z => cm2 p y z) e3).bind fun k e4 => .ok (.val (.d (.bool k))) e4 else .ok (.val (.d (.bool false))) e2
  | .ands es, e => evAnd O es e
  | .ors es, e => evOr O es e
  | .nott a, e => (ev O a e).bind fun pa e1 => match res pa e1 with
    | some (.bool c) => .ok (.val (.d (.bool (!c)))) e1
    | _ => .bad
  | .ife c a b, e => (evT O c e).bind fun t e1 => if t then ev O a e1 else ev O b e1
  | .tup es, e => (evDs O es e).bind fun xs e1 => if xs.length ≤ sizeLine then .ok (.val (.d (.tuple xs))) e1 else .bad
  | .lst es, e => (evDs O es e).bind fun xs e1 => if xs.length ≤ sizeLine then .ok (.val (.own xs)) e1 else .bad
  | .idx a i, e => (ev O a e).bind fun pa e1 => (ev O i e1).bind fun pi e2 => lift1 ((res pa e2).bind fun x => (res pi e2).bind fun y => (ixd x y).map .val) e2
  | .slc a lo hi, e => (ev O a e).bind fun pa e1 => (evO O lo e1).bind fun l e2 => (evO O hi e2).bind fun h e3 => lift1 ((res pa e3).bind fun x => (slcd x l h).map .val) e3
  | .call f es, e => (evDs O es e).bind fun xs e1 => match O.cf f (xs.map .d) with
    | .ok v none => .ok (.val v) e1
    | .exc k => .exc k
    | _ => .bad
  | .callm f i es, e => match e[i]? with
    | some (some (.own _)) => (evDs O es e).bind fun xs e1 => (match e1[i]? with
      | some (some (.own ys)) => (match O.cf f (.own ys :: xs.map .d) with
        | .ok v (some zs) => .ok (.val v) (e1.set i (some (.own zs)))
        | _ => .bad)
      | _ => .bad)
    | _ => .bad
  | .blt b es, e => (evPs O es e).bind fun xs e1 => lift1 ((bltR b xs).map .val) e1
  | .lc elt g it c own, e => (evI O it e).bind fun xs e1 => if noOwn e1 own then (lcGo g own (evTs O c) (fun e2 => (ev O elt e2).bind fun p e3 => match frz p e3 with
      | some (x, e4) => .ok x e4
      | none => .bad) xs [] e1).bind fun ys e2 => .ok (.val (.own ys)) e2 else .bad
  | .fmt a, e => (ev O a e).bind fun p e1 => match res p e1 with
    | some (.str y) => if y.length ≤ sizeLine then .ok (.val (.d (.str y))) e1 else .bad
    | some (.int i) => if i.natAbs.log2 < 1920 then .ok (.val (.d (.str (toString i)))) e1 else .bad
    | _ => .bad
  | .js es, e => evJ O es Str.empty e
  | .told nm a, e => toldR nm e (ev O a (sealD e))
  | .m1 m a b, e => (ev O a e).bind fun pa e1 => match res pa e1 with
    | some (.str s) => (ev O b e1).bind fun pb e2 => lift1 ((res pb e2).bind fun y => (mth1 m s y).map .val) e2
    | _ => .bad
  | .ml m a b, e => (ev O a e).bind fun pa e1 => match res pa e1 with
    | some (.list _) => (ev O b e1).bind fun pb e2 => lift1 ((res pa e2).bind fun x => (res pb e2).bind fun y => (mthL m x y).map .val) e2
    | _ => .bad
  | .rev a, e => (ev O a e).bind fun pa e1 => lift1 ((res pa e1).bind fun x => (revD x).map .val) e1
def evJ (O : Orc) : Es → Str → DEnv → R PV
  | .nil, acc, e => .ok (.val (.d (.str acc))) e
  | .cons a es, acc, e => (ev O a e).bind fun p e1 => match res p e1 with
    | some (.str y) => if (acc ++ y).length ≤ sizeLine then evJ O es (acc ++ y) e1 else .bad
    | _ => .bad
  | .star _ _, _, _ => .bad
def evDs (O : Orc) : Es → DEnv → R (List PyData)
  | .nil, e => .ok [] e
  | .cons a es, e => (ev O a e).bind fun p e1 => match frz p e1 with
    | some (x, e2) => (evDs O es e2).bind fun xs e3 => .ok (x :: xs) e3
    | none => .bad
  | .star a es, e => (ev O a e).bind fun p e1 => match (res p e1).bind seqD with
    | some ys => (evDs O es e1).bind fun xs e3 => .ok (ys ++ xs) e3
    | none => .bad
def evPs (O : Orc) : Es → DEnv → R (List PyData)
  | .nil, e => .ok [] e
  | .cons a es, e => (ev O a e).bind fun p e1 => (evPs O es e1).bind fun xs e2 => lift1 ((res p e2).map (· :: xs)) e2
  | .star _ _, _ => .bad
def evO (O : Orc) : Eo → DEnv → R (Option Int)
  | .no, e => .ok none e
  | .so a, e => (ev O a e).bind fun p e1 => match res p e1 with
    | some (.int i) => .ok (some i) e1
    | _ => .bad
def evT (O : Orc) : T → DEnv → R Bool
  | .tru a, e => (ev O a e).bind fun p e1 => lift1 ((res p e1).bind truth) e1
  | .cmp o a b, e => (ev O a e).bind fun pa e1 => (ev O b e1).bind fun pb e2 => lift1 ((res pa e2).bind fun x => (res pb e2).bind fun y => cm2 o x y) e2
  | .chain o p a b c, e => (ev O a e).bind fun pa e1 => (ev O b e1).bind fun pb e2 => (lift1 ((res pa e2).bind fun x => (res pb e2).bind fun y => cm2 o x y) e2).bind fun k e2 => if k then (ev O c e2).bind fun pc e3 => lift1 ((res pb e3).bind fun y => (res pc e3).bind fun z => cm2 p y z) e3 else .ok false e2
  | .ands ts, e => evTs O ts e
  | .ors ts, e => evTo O ts e
  | .nott t, e => (evT O t e).bind fun b e1 => .ok (!b) e1
/-- bools, but for the last one -/
def evAnd (O : Orc) : Es → DEnv → R PV
  | .nil, _ => .bad
  | .cons a es, e => match es with
    | .nil => ev O a e
    | es => (ev O a e).bind fun p e1 => match res p e1 with
      | some (.bool c) => if c then evAnd O es e1 else .ok (.val (.d (.bool false))) e1
      | _ => .bad
  | .star _ _, _ => .bad
def evOr (O : Orc) : Es → DEnv → R PV
  | .nil, _ => .bad
  | .cons a es, e => match es with
    | .nil => ev O a e
    | es => (ev O a e).bind fun p e1 => match res p e1 with
      | some (.bool c) => if c then .ok (.val (.d (.bool true))) e1 else evOr O es e1
      | _ => .bad
  | .star _ _, _ => .bad
/-- all of them, from the left -/
def evTs (O : Orc) : Ts → DEnv → R Bool
  | .nil, e => .ok true e
  | .cons t ts, e => (evT O t e).bind fun b e1 => if b then evTs O ts e1 else .ok false e1
/-- one of them, from the left -/
def evTo (O : Orc) : Ts → DEnv → R Bool
  | .nil, e => .ok false e
  | .cons t ts, e => (evT O t e).bind fun b e1 => if b then .ok true e1 else evTo O ts e1
def evI (O : Orc) : I → DEnv → R (List PyData)
  | .data a, e => (ev O a e).bind fun p e1 => match frz p e1 with
    | some (x, e2) => lift1 (items x) e2
    | none => .bad
  | .rng1 a, e => (ev O a e).bind fun p e1 => match res p e1 with
    | some (.int n) => if small62 n then .ok (rangeD 0 n.toNat) e1 else .bad
    | _ => .bad
  | .rng2 a b, e => (ev O a e).bind fun p e1 => (ev O b e1).bind fun q e2 => match res p e2, res q e2 with
    | some (.int n), some (.int m) => if small62 n && small62 m then .ok (rangeD n (m - n).toNat) e2 else .bad
    | _, _ => .bad
  | .enum es, e => (evDs O es e).bind fun xs e1 => lift1 (enumOf xs) e1
  | .zip es, e => (evDs O es e).bind fun xs e1 => lift1 (zipOf xs) e1
end
def evVs (O : Orc) : Es → DEnv → R (List DV)
  | .nil, e => .ok [] e
  | .cons a es, e => (ev O a e).bind fun p e1 => match tak p e1 with
    | some (x, e2) => (evVs O es e2).bind fun xs e3 => .ok (x :: xs) e3
    | none => .bad
  | .star _ _, _ => .bad
def setAll : List Nat → List DV → DEnv → Option DEnv
  | [], [], e => some e
  | i :: is, v :: vs, e => if i < e.length then setAll is vs (e.set i (some v)) else none
  | _, _, _ => none
mutual
def exS (O : Orc) : S → DEnv → R Fl
  | .set i c, e => (ev O c e).bind fun p e1 => match tak p e1 with
    | some (v, e2) => if i < e2.length then .ok .nx (e2.set i (some v)) else .bad
    | none => .bad
  | .par is es, e => (evVs O es e).bind fun vs e1 => match setAll is vs e1 with
    | some e2 => .ok .nx e2
    | none => .bad
  | .unp g c, e => (ev O c e).bind fun p e1 => match frz p e1 with
    | some (x, e2) => (match bindT g x e2 with
      | some e3 => .ok .nx e3
      | none => .bad)
    | none => .bad
  | .seti i ix c, e => (ev O c e).bind fun p e1 => match frz p e1 with
    | some (y, e2) => (match e2[i]? with
      | some (some (.own _)) => (ev O ix e2).bind fun q e3 => (match e3[i]?, res q e3 with
        | some (some (.own xs)), some (.int k) => (match L2.ixN xs.length k with
          | some j => .ok .nx (e3.set i (some (.own (xs.set j y))))
          | none => .bad)
        | _, _ => .bad)
      | _ => .bad)
    | none => .bad
  | .app i c, e => match e[i]? with
    | some (some (.own _)) => (ev O c e).bind fun p e1 => (match frz p e1 with
      | some (y, e2) => (match e2[i]? with
        | some (some (.own xs)) => if xs.length < sizeLine then .ok .nx (e2.set i (some (.own (xs ++ [y])))) else .bad
        | _ => .bad)
      | none => .bad)
    | _ => .bad
  | .ext i c, e => match e[i]? with
    | some (some (.own _)) => (ev O c e).bind fun p e1 => (match p with
      | .val (.own ys) => (match e1[i]? with
        | some (some (.own xs)) => if xs.length + ys.length ≤ sizeLine then .ok .nx (e1.set i (some (.own (xs ++ ys)))) else .bad
        | _ => .bad)
      | _ => .bad)
    | _ => .bad
  | .expr c, e => (ev O c e).bind fun _ e1 => .ok .nx e1
  | .ifs c a b, e => (evT O c e).bind fun t e1 => if t then exSs O a e1 else exSs O b e1
  | .fors g it body, e => (evI O it e).bind fun xs e1 => forL g (exSs O body) xs e1
  | .whl c body, e => whL (evT O c) (exSs O body) fuelW e
  | .ret c, e => (ev O c e).bind fun p e1 => match tak p e1 with
    | some (v, e2) => .ok (.ret v) e2
    | none => .bad
  | .retn, e => .ok (.ret (.d .none)) e
  | .rais k, _ => .exc k
  | .brk, e => .ok .brk e
  | .cont, e => .ok .ct e
  | .pass, e => .ok .nx e
def exSs (O : Orc) : Ss → DEnv → R Fl
  | .nil, e => .ok .nx e
  | .cons s ss, e => (exS O s e).bind fun f e1 => match f with
    | .nx => exSs O ss e1
    | .ret v => .ok (.ret v) e1
    | .brk => .ok .brk e1
    | .ct => .ok .ct e1
end
/-- a def of the program, compact -/
structure FI where
  name : Str
  ps : List Str
  N : List Str
  mut0 : Bool
  body : Ss
def argOk (m : Bool) : List DV → Bool
  | [] => !m
  | .own _ :: r => m && r.all fun v => match v with | .d _ => true | .own _ => false
  | .d _ :: r => !m && r.all fun v => match v with | .d _ => true | .own _ => false
def finR (m : Bool) (v : DV) (e : DEnv) : CA :=
  if m then (match (e[0]? : Option (Option DV)) with
    | some (some (.own xs)) => .ok v (some xs)
    | _ => .bad) else .ok v none
def runF (O : Orc) (F : FI) (args : List DV) : CA :=
  if args.length = F.ps.length ∧ argOk F.mut0 args = true then
    match exSs O F.body (args.map some ++ List.replicate (F.N.length - args.length) none) with
    | .ok .nx e => finR F.mut0 (.d .none) e
    | .ok (.ret v) e => finR F.mut0 v e
    | .ok _ _ => .bad
    | .exc k => if F.mut0 then .bad else .exc k
    | .bad => .bad
  else .bad
def callF (T : List FI) (G : List PyData) : Nat → Nat → List DV → CA
  | 0, _, _ => .bad
  | n + 1, f, args => match T[f]? with
    | some F => runF { cf := callF T G n, glo := G } F args
    | none => .bad
end Wd
/-! Wd 2: data in the abstract heap; the ghost step that locks a list; what an expression leaves. -/
namespace Wd
open PySem PySem.Spec PyProof.Rows L2
/-! ### data that never change -/
mutual
inductive Fz (K : PySem.W.Frag) (H : Hp) : V → PyData → Prop
  | non : Fz K H .non .none
  | bl (b : Bool) : Fz K H (.bl b) (.bool b)
  | int (i : Int) : Fz K H (.int i) (.int i)
  | str (x : Str) : Fz K H (.str x) (.str x)
  | lst {a : Addr} {o : Obj} {xs : List V} {ds : List PyData} : H a = some (.frz o (.lst xs)) → FzAll K H xs ds → Fz K H (.ref a) (.list ds)
  | lstK {a : Addr} {o : Obj} {its : Array Value} {n : Nat} {xs : List V} {ds : List PyData} : K.lookup a = some o → o.cls = .type "list" → o.dict = none → o.data = .seq its n → its.size ≤ sizeLine → Vals xs its.toList → FzAll K H xs ds → Fz K H (.ref a) (.list ds)
  | tup {a : Addr} {xs : List V} {ds : List PyData} : SqT K H a xs → FzAll K H xs ds → Fz K H (.ref a) (.tuple ds)
inductive FzAll (K : PySem.W.Frag) (H : Hp) : List V → List PyData → Prop
  | nil : FzAll K H [] []
  | cons {v : V} {vs : List V} {d : PyData} {ds : List PyData} : Fz K H v d → FzAll K H vs ds → FzAll K H (v :: vs) (d :: ds)
end
section
variable {K : PySem.W.Frag} {H H' : Hp}
mutual
theorem Fz.dp : ∀ {v : V} {d : PyData}, Fz K H v d → Dp K H v d
  | _, _, .non => .non
  | _, _, .bl b => .bl b
  | _, _, .int i => .int i
  | _, _, .str x => .str x
  | _, _, .lst h a => .lst (.inl (.inr ⟨_, h⟩)) (FzAll.dp a)
  | _, _, .lstK h1 h2 h3 h4 h5 h6 a => .lst (.inr ⟨_, _, _, h1, h2, h3, h4, h5, h6⟩) (FzAll.dp a)
  | _, _, .tup h a => .tup h (FzAll.dp a)
theorem FzAll.dp : ∀ {vs : List V} {ds : List PyData}, FzAll K H vs ds → DpAll K H vs ds
  | _, _, .nil => .nil
  | _, _, .cons h a => .cons (Fz.dp h) (FzAll.dp a)
end
/-- what never changes stands -/
def Stay (H H' : Hp) : Prop := (∀ b xs, H b = some (.tup xs) → H' b = some (.tup xs)) ∧ ∀ b o u, H b = some (.frz o u) → H' b = some (.frz o u)
theorem Stay.refl (H : Hp) : Stay H H := ⟨fun _ _ h => h, fun _ _ _ h => h⟩
theorem Stay.trans {H1 : Hp} (a : Stay H H1) (b : Stay H1 H') : Stay H H' := ⟨fun c xs h => b.1 c xs (a.1 c xs h), fun c o u h => b.2 c o u (a.2 c o u h)⟩
theorem Stay.sqT (s : Stay H H') {a : Addr} {xs : List V} (h : SqT K H a xs) : SqT K H' a xs := by
  rcases h with (h | ⟨o, h⟩) | h
  · exact .inl (.inl (s.1 _ _ h))
  · exact .inl (.inr ⟨o, s.2 _ _ _ h⟩)
  · exact .inr h
mutual
theorem Fz.stay (s : Stay H H') : ∀ {v : V} {d : PyData}, Fz K H v d → Fz K H' v d
  | _, _, .non => .non
  | _, _, .bl b => .bl b
  | _, _, .int i => .int i
  | _, _, .str x => .str x
  | _, _, .lst h a => .lst (s.2 _ _ _ h) (FzAll.stay s a)
  | _, _, .lstK h1 h2 h3 h4 h5 h6 a => .lstK h1 h2 h3 h4 h5 h6 (FzAll.stay s a)
  | _, _, .tup h a => .tup (s.sqT h) (FzAll.stay s a)
theorem FzAll.stay (s : Stay H H') : ∀ {vs : List V} {ds : List PyData}, FzAll K H vs ds → FzAll K H' vs ds
  | _, _, .nil => .nil
  | _, _, .cons h a => .cons (Fz.stay s h) (FzAll.stay s a)
end
theorem FzAll.length : ∀ {vs : List V} {ds : List PyData}, FzAll K H vs ds → vs.length = ds.length
  | _, _, .nil => rfl
  | _, _, .cons _ a => congrArg (· + 1) (FzAll.length a)
theorem DpAll.length : ∀ {vs : List V} {ds : List PyData}, DpAll K H vs ds → vs.length = ds.length
  | _, _, .nil => rfl
  | _, _, .cons _ a => congrArg (· + 1) (DpAll.length a)
theorem FzAll.append : ∀ {vs ws : List V} {ds es : List PyData}, FzAll K H vs ds → FzAll K H ws es → FzAll K H (vs ++ ws) (ds ++ es)
  | _, _, _, _, .nil, b => b
  | _, _, _, _, .cons h a, b => .cons h (FzAll.append a b)
theorem FzAll.take : ∀ {vs : List V} {ds : List PyData} (n : Nat), FzAll K H vs ds → FzAll K H (vs.take n) (ds.take n)
  | _, _, 0, _ => .nil
  | _, _, _ + 1, .nil => .nil
  | _, _, n + 1, .cons h a => .cons h (FzAll.take n a)
theorem FzAll.drop : ∀ {vs : List V} {ds : List PyData} (n : Nat), FzAll K H vs ds → FzAll K H (vs.drop n) (ds.drop n)
  | _, _, 0, a => a
  | _, _, _ + 1, .nil => .nil
  | _, _, n + 1, .cons _ a => FzAll.drop n a
theorem FzAll.set {v : V} {d : PyData} (h : Fz K H v d) : ∀ {vs : List V} {ds : List PyData} (n : Nat), FzAll K H vs ds → FzAll K H (vs.set n v) (ds.set n d)
  | _, _, _, .nil => .nil
  | _, _, 0, .cons _ a => .cons h a
  | _, _, n + 1, .cons q a => .cons q (FzAll.set h n a)
theorem FzAll.rep {vs : List V} {ds : List PyData} (h : FzAll K H vs ds) : ∀ n : Nat, FzAll K H (List.replicate n vs).flatten (List.replicate n ds).flatten
  | 0 => .nil
  | n + 1 => by
    rw [List.replicate_succ, List.replicate_succ, List.flatten_cons, List.flatten_cons]
    exact h.append (FzAll.rep h n)
theorem FzAll.get : ∀ {vs : List V} {ds : List PyData} {i : Nat} {d : PyData}, FzAll K H vs ds → ds[i]? = some d → ∃ v, vs[i]? = some v ∧ Fz K H v d
  | _, _, _, _, .nil, e => by simp at e
  | _, _, 0, _, .cons h _, e => by simp at e; subst e; exact ⟨_, rfl, h⟩
  | _, _, i + 1, d, .cons _ a, e => by
    obtain ⟨v, e1, h⟩ := FzAll.get (i := i) (d := d) a (by simpa using e)
    exact ⟨v, by simpa using e1, h⟩
theorem FzAll.getV : ∀ {vs : List V} {ds : List PyData} {i : Nat} {v : V}, FzAll K H vs ds → vs[i]? = some v → ∃ d, ds[i]? = some d ∧ Fz K H v d
  | _, _, _, _, .nil, e => by simp at e
  | _, _, 0, _, .cons h _, e => by simp at e; subst e; exact ⟨_, rfl, h⟩
  | _, _, i + 1, v, .cons _ a, e => by
    obtain ⟨d, e1, h⟩ := FzAll.getV (i := i) (v := v) a (by simpa using e)
    exact ⟨d, by simpa using e1, h⟩
end
/-! ### the ghost step: a list is locked -/
theorem freeze_inv {X : Cx} {pins : List (Addr × Obj)} {σ : L2.St} {H : Hp} {s : Shared} {a : Addr} {xs : List V} (I : L2.Inv X pins σ H s) (h : H a = some (.lst xs)) : ∃ o, L2.Inv X pins σ (upd H a (.frz o (.lst xs))) s := by
  have hk := I.hok a _ h
  obtain ⟨z, its, n, r, e⟩ := id hk
  refine ⟨{ cls := .type "list", data := .seq its.toArray n }, ?_⟩
  have ne : ∀ b u, H b = some u → (∀ ys, u ≠ .lst ys) → b ≠ a := fun b u q w z => by
    rw [z, h] at q
    exact w xs (Option.some.inj q).symm
  have nn : ∀ b, H b = none → b ≠ a := fun b q z => by
    rw [z, h] at q
    cases q
  have un : Un X.fs [] H (upd H a (.frz { cls := .type "list", data := .seq its.toArray n } (.lst xs))) s.heap s.heap :=
    ⟨fun b o q _ _ _ => q, fun b o q _ _ _ => ⟨o.slots, q⟩, fun b o q n' _ => by rw [upd_ne (nn b n')]; exact n', fun b o q _ => ⟨o, q⟩, fun b ys q => by rw [upd_ne (ne b _ q fun _ z => by cases z)]; exact q,
      fun b o u q => by rw [upd_ne (ne b _ q fun _ z => by cases z)]; exact q, fun b ps q => ⟨#[], by rw [upd_ne (ne b _ q fun _ z => by cases z), q]; simp⟩⟩
  have hok : HOk X.prog X.w (upd H a (.frz { cls := .type "list", data := .seq its.toArray n } (.lst xs))) s.heap := fun b u q => by
    by_cases hb : b = a
    · subst hb
      rw [upd_same] at q
      cases q
      exact ⟨e, z, its, n, r, e⟩
    · rw [upd_ne hb] at q
      exact (I.hok b u q).stay (fun _ _ _ k => k) (fun c k => by rw [upd_ne (ne c _ k fun _ z => by cases z)]; exact k) fun c ys k => by rw [upd_ne (ne c _ k fun _ z => by cases z)]; exact k
  exact I.un (h' := s.heap) (t' := s.toks) un hok
/-- as it stands, or with one more list locked -/
def GF (H : Hp) (P : Hp → Prop) : Prop := P H ∨ ∃ a xs, H a = some (.lst xs) ∧ ∀ o, P (upd H a (.frz o (.lst xs)))
section
variable {X : Cx} {e : Expr} {te : TE}
def tGF (te : TE) : TE := fun σ H Q => te σ H fun x H1 => GF H1 (Q x)
theorem pe_gf (h : PE X e te) : PE X e (tGF te) := by
  refine ⟨fun pins s σ H Q I hq => ?_⟩
  refine thn (h.run pins s σ H _ I hq) fun u s1 ⟨v, H1, I1, r, q⟩ => ?_
  rcases q with q | ⟨a, xs, ha, q⟩
  · exact ⟨v, H1, I1, r, q⟩
  · obtain ⟨o, I2⟩ := freeze_inv I1 ha
    exact ⟨v, _, I2, r, q o⟩
end
/-! ### what may change -/
/-- all that is tracked stands, but what O tells, and tables -/
def Ext (O : Addr → Prop) (H H' : Hp) : Prop := ∀ b o, H b = some o → ¬ O b → (∀ ps, o ≠ .tbl ps) → H' b = some o
def isLst (H : Hp) (O : Addr → Prop) : Prop := ∀ b, O b → ∃ xs, H b = some (.lst xs)
theorem Ext.refl {O : Addr → Prop} {H : Hp} : Ext O H H := fun _ _ h _ _ => h
theorem Ext.of {O : Addr → Prop} {H H' : Hp} (h : ∀ b o, H b = some o → H' b = some o) : Ext O H H' := fun b o q _ _ => h b o q
theorem Ext.trans {O O' : Addr → Prop} {H H1 H2 : Hp} (a : Ext O H H1) (b : Ext O' H1 H2) (h : ∀ c o, H c = some o → O' c → O c) : Ext O H H2 := fun c o q n t => b c o (a c o q n t) (fun z => n (h c o q z)) t
theorem Ext.mono {O O' : Addr → Prop} {H H1 : Hp} (a : Ext O H H1) (h : ∀ c, O c → O' c) : Ext O' H H1 := fun c o q n t => a c o q (fun z => n (h c z)) t
theorem Ext.stay {O : Addr → Prop} {H H' : Hp} (a : Ext O H H') (l : isLst H O) : Stay H H' := by
  refine ⟨fun b xs h => a b _ h (fun z => ?_) fun _ z => (by cases z), fun b o u h => a b _ h (fun z => ?_) fun _ z => (by cases z)⟩
  · obtain ⟨ys, e⟩ := l b z
    rw [h] at e
    cases e
  · obtain ⟨ys, e⟩ := l b z
    rw [h] at e
    cases e
abbrev TL := List (Addr × Str)
theorem tabs_upd {TB : TL} {H : Hp} {a : Addr} {o : HO} (t : LamX.Tabs TB H) (h : H a = none ∨ ∃ xs, H a = some (.lst xs)) : LamX.Tabs TB (upd H a o) := fun p hp => by
  obtain ⟨ps, h1, h2, h3⟩ := t p hp
  have ne : ∀ b u, H b = some u → (∀ ys, u ≠ .lst ys) → b ≠ a := fun b u q w z => by
    subst z
    rcases h with e | ⟨ys, e⟩
    · rw [e] at q; cases q
    · rw [e] at q; exact w ys (Option.some.inj q).symm
  refine ⟨ps, by rw [upd_ne (ne _ _ h1 fun _ z => by cases z)]; exact h1, h2, fun pos cv hc => ?_⟩
  obtain ⟨c, e1, e2⟩ := h3 pos cv hc
  exact ⟨c, e1, by rw [upd_ne (ne _ _ e2 fun _ z => by unfold LamX.CodeO at z; cases z)]; exact e2⟩
/-! ### the frame's names -/
/-- x is what v tells -/
def RV (K : PySem.W.Frag) (H : Hp) (x : V) : DV → Prop
  | .d y => Fz K H x y
  | .own ys => ∃ a vs, x = .ref a ∧ H a = some (.lst vs) ∧ FzAll K H vs ys
/-- the lists that names own -/
def OwnA (env : DEnv) (σ : L2.St) (b : Addr) : Prop := ∃ (i : Nat) (xs : List PyData), env[i]? = some (some (DV.own xs)) ∧ σ[i]? = some (some (V.ref b))
structure RepE (K : PySem.W.Frag) (TB : TL) (H : Hp) (σ : L2.St) (env : DEnv) : Prop where
  len : env.length = σ.length
  at_ : ∀ (i : Nat) (v : DV), env[i]? = some (some v) → ∃ x, σ[i]? = some (some x) ∧ RV K H x v
  inj : ∀ (i j : Nat) (xs ys : List PyData) (a : Addr), env[i]? = some (some (DV.own xs)) → env[j]? = some (some (DV.own ys)) → σ[i]? = some (some (V.ref a)) → σ[j]? = some (some (V.ref a)) → i = j
  tabs : LamX.Tabs TB H
section
variable {K : PySem.W.Frag} {TB : TL} {H H' H1 H2 : Hp} {σ : L2.St} {env env' env1 env2 : DEnv}
theorem RV.dp {x : V} {v : DV} (h : RV K H x v) : Dp K H x v.data := by
  cases v with
  | d y => exact Fz.dp h
  | own ys =>
    obtain ⟨a, vs, rfl, e, al⟩ := h
    exact .lst (.inl (.inl e)) al.dp
theorem RepE.own_lst (r : RepE K TB H σ env) : isLst H (OwnA env σ) := fun b ⟨i, xs, h1, h2⟩ => by
  obtain ⟨x, e, a, vs, rfl, e2, _⟩ := r.at_ i _ h1
  rw [h2] at e
  cases e
  exact ⟨vs, e2⟩
/-- what an expression's result is -/
def PR (K : PySem.W.Frag) (H H' : Hp) (σ : L2.St) (env' : DEnv) (v : V) : PV → Prop
  | .val (.d x) => Fz K H' v x
  | .val (.own xs) => ∃ a vs, v = .ref a ∧ H' a = some (.lst vs) ∧ FzAll K H' vs xs ∧ H a = none
  | .slot i => σ[i]? = some (some v) ∧ ∃ w, env'[i]? = some (some w)
/-- behind an expression -/
structure EP1 (K : PySem.W.Frag) (TB : TL) (σ : L2.St) (H : Hp) (env : DEnv) (H' : Hp) (env' : DEnv) : Prop where
  ext : Ext (OwnA env σ) H H'
  rep : RepE K TB H' σ env'
  sub : ∀ b, OwnA env' σ b → OwnA env σ b
  asg : ∀ (i : Nat) (w : DV), env[i]? = some (some w) → ∃ w', env'[i]? = some (some w')
  gone : ∀ b, H' b = none → H b = none
  base : isLst H (OwnA env σ)
theorem EP1.refl (r : RepE K TB H σ env) : EP1 K TB σ H env H env := ⟨Ext.refl, r, fun _ h => h, fun _ w h => ⟨w, h⟩, fun _ h => h, r.own_lst⟩
theorem EP1.trans (a : EP1 K TB σ H env H1 env1) (b : EP1 K TB σ H1 env1 H2 env2) : EP1 K TB σ H env H2 env2 :=
  ⟨a.ext.trans b.ext fun c _ _ z => a.sub c z, b.rep, fun c z => a.sub c (b.sub c z), fun i w h => let ⟨w', h'⟩ := a.asg i w h; b.asg i w' h', fun c h => a.gone c (b.gone c h), a.base⟩
theorem EP1.stay (a : EP1 K TB σ H env H' env') : Stay H H' := a.ext.stay a.base
end
end Wd
/-! Wd 3: what the interpreter says is what the rules give: expressions. -/
namespace Wd
open PySem PySem.Spec PyProof.Rows L2
abbrev WEx := Nat → Option Addr → Hp → Prop
section
variable {K : PySem.W.Frag} {TB : TL} {W : WEx} {σ : L2.St} {α β γ δ : Type}
def SndAt (K : PySem.W.Frag) (TB : TL) (W : WEx) (σ : L2.St) (H0 : Hp) (env0 : DEnv) (p : (β → Hp → Prop) → Prop) (r : R α) (Rl : Hp → DEnv → β → α → Prop) : Prop :=
  (∀ a env', r = .ok a env' → ∀ Q : β → Hp → Prop, (∀ b H', EP1 K TB σ H0 env0 H' env' → Rl H' env' b a → Q b H') → p Q) ∧
  (∀ k, r = .exc k → (∀ H', Ext (OwnA env0 σ) H0 H' → (∀ b, H' b = none → H0 b = none) → LamX.Tabs TB H' → W k none H') → ∀ Q : β → Hp → Prop, p Q)
def Snd (K : PySem.W.Frag) (TB : TL) (W : WEx) (t : L2.St → Hp → (β → Hp → Prop) → Prop) (f : DEnv → R α) (Rl : Hp → Hp → L2.St → DEnv → β → α → Prop) : Prop :=
  ∀ σ H env, RepE K TB H σ env → SndAt K TB W σ H env (t σ H) (f env) (fun H' env' b a => Rl H H' σ env' b a)
theorem sa_bad {H0 : Hp} {env0 : DEnv} {p : (β → Hp → Prop) → Prop} {Rl : Hp → DEnv → β → α → Prop} : SndAt K TB W σ H0 env0 p .bad Rl := ⟨fun _ _ e => (nomatch e), fun _ e => (nomatch e)⟩
theorem sa_ok {H0 H1 : Hp} {env0 env1 : DEnv} {Rl : Hp → DEnv → β → α → Prop} {a : α} {b : β} (e : EP1 K TB σ H0 env0 H1 env1) (h : Rl H1 env1 b a) : SndAt K TB W σ H0 env0 (fun Q => Q b H1) (.ok a env1) Rl :=
  ⟨fun a' env' q Q k => by cases q; exact k b H1 e h, fun _ q => (nomatch q)⟩
theorem sa_bind {H0 : Hp} {env0 : DEnv} {pa : (γ → Hp → Prop) → Prop} {ra : R δ} {Ra : Hp → DEnv → γ → δ → Prop} {pu : γ → Hp → (β → Hp → Prop) → Prop} {g : δ → DEnv → R α} {Rl : Hp → DEnv → β → α → Prop}
    (ha : SndAt K TB W σ H0 env0 pa ra Ra) (hb : ∀ x a H1 env1, EP1 K TB σ H0 env0 H1 env1 → Ra H1 env1 x a → SndAt K TB W σ H0 env0 (pu x H1) (g a env1) Rl) :
    SndAt K TB W σ H0 env0 (fun Q => pa fun x H1 => pu x H1 Q) (ra.bind g) Rl := by
  cases ra with
  | bad => exact sa_bad
  | exc k => exact ⟨fun _ _ e => (nomatch e), fun k' e hw Q => by cases e; exact ha.2 k rfl hw _⟩
  | ok a env1 =>
    refine ⟨fun b env2 e Q hq => ha.1 a env1 rfl _ fun x H1 e1 r1 => (hb x a H1 env1 e1 r1).1 b env2 e Q hq, fun k e hw Q => ha.1 a env1 rfl _ fun x H1 e1 r1 => (hb x a H1 env1 e1 r1).2 k e hw Q⟩
theorem sa_bindE {H0 : Hp} {env0 : DEnv} {pa : (γ → Hp → Prop) → Prop} {ra : R δ} {Ra : Hp → DEnv → γ → δ → Prop} {pu : γ → Hp → (β → Hp → Prop) → Prop} {g : δ → DEnv → R α} {Rl : Hp → DEnv → β → α → Prop}
    (ha : SndAt K TB W σ H0 env0 pa ra Ra) (hb : ∀ x a H1 env1, ra = .ok a env1 → EP1 K TB σ H0 env0 H1 env1 → Ra H1 env1 x a → SndAt K TB W σ H0 env0 (pu x H1) (g a env1) Rl) :
    SndAt K TB W σ H0 env0 (fun Q => pa fun x H1 => pu x H1 Q) (ra.bind g) Rl := by
  refine sa_bind (Ra := fun H1 env1 x a => ra = .ok a env1 ∧ Ra H1 env1 x a) ⟨fun a env' e Q k => ha.1 a env' e Q fun b H' e1 r1 => k b H' e1 ⟨e, r1⟩, ha.2⟩ fun x a H1 env1 e1 r1 => hb x a H1 env1 r1.1 e1 r1.2
theorem sa_mono {H0 : Hp} {env0 : DEnv} {p : (β → Hp → Prop) → Prop} {r : R α} {Rl Rl' : Hp → DEnv → β → α → Prop} (h : SndAt K TB W σ H0 env0 p r Rl) (m : ∀ H' env' b a, EP1 K TB σ H0 env0 H' env' → Rl H' env' b a → Rl' H' env' b a) : SndAt K TB W σ H0 env0 p r Rl' :=
  ⟨fun a env' e Q k => h.1 a env' e Q fun b H' e1 r1 => k b H' e1 (m _ _ _ _ e1 r1), h.2⟩
/-- a part, begun later -/
theorem Snd.at {t : L2.St → Hp → (β → Hp → Prop) → Prop} {f : DEnv → R α} {Rl : Hp → Hp → L2.St → DEnv → β → α → Prop} (h : Snd K TB W t f Rl) {H0 H1 : Hp} {env0 env1 : DEnv} (e : EP1 K TB σ H0 env0 H1 env1) :
    SndAt K TB W σ H0 env0 (t σ H1) (f env1) (fun H' env' b a => EP1 K TB σ H1 env1 H' env' ∧ Rl H1 H' σ env' b a) := by
  obtain ⟨h1, h2⟩ := h σ H1 env1 e.rep
  refine ⟨fun a env' q Q k => h1 a env' q Q fun b H' e1 r1 => k b H' (e.trans e1) ⟨e1, r1⟩, fun k q hw Q => h2 k q (fun H' x g y => hw H' (e.ext.trans x fun c _ _ z => e.sub c z) (fun b q => e.gone b (g b q)) y) Q⟩
theorem lift1_sa {H0 : Hp} {env0 env1 : DEnv} {p : (β → Hp → Prop) → Prop} {o : Option α} {Rl : Hp → DEnv → β → α → Prop} (h : ∀ a, o = some a → SndAt K TB W σ H0 env0 p (.ok a env1) Rl) : SndAt K TB W σ H0 env0 p (lift1 o env1) Rl := by
  cases o with
  | none => exact sa_bad
  | some a => exact h a rfl
/-- by the rule alone: an operator that makes nothing, or something new -/
theorem sa_val {H0 : Hp} {env0 env1 : DEnv} {Rl : Hp → DEnv → β → α → Prop} {a : α} {p : (β → Hp → Prop) → Prop} (h : ∀ Q : β → Hp → Prop, (∀ b H', EP1 K TB σ H0 env0 H' env1 → Rl H' env1 b a → Q b H') → p Q) : SndAt K TB W σ H0 env0 p (.ok a env1) Rl :=
  ⟨fun a' env' q Q k => by cases q; exact h Q k, fun _ q => (nomatch q)⟩
/-! ### heaps that grow by one object -/
theorem RV.upd {H : Hp} {a : Addr} {o : HO} {x : V} {v : DV} (h : RV K H x v) (n : H a = none) : RV K (upd H a o) x v := by
  have st : Stay H (L2.upd H a o) := ⟨fun b xs e => by rw [upd_ne (ne_of_none e n)]; exact e, fun b ob u e => by rw [upd_ne (ne_of_none e n)]; exact e⟩
  cases v with
  | d y => exact Fz.stay st h
  | own ys =>
    obtain ⟨b, vs, rfl, e, al⟩ := h
    exact ⟨b, vs, rfl, by rw [upd_ne (ne_of_none e n)]; exact e, FzAll.stay st al⟩
theorem stay_new {H : Hp} {a : Addr} {o : HO} (n : H a = none) : Stay H (upd H a o) := ⟨fun b xs e => by rw [upd_ne (ne_of_none e n)]; exact e, fun b ob u e => by rw [upd_ne (ne_of_none e n)]; exact e⟩
theorem RepE.new {H : Hp} {a : Addr} {o : HO} {env : DEnv} (r : RepE K TB H σ env) (n : H a = none) : RepE K TB (upd H a o) σ env :=
  ⟨r.len, fun i v e => let ⟨x, h, q⟩ := r.at_ i v e; ⟨x, h, q.upd n⟩, r.inj, tabs_upd r.tabs (.inl n)⟩
theorem EP1.new {H0 H1 : Hp} {env0 env1 : DEnv} {a : Addr} {o : HO} (e : EP1 K TB σ H0 env0 H1 env1) (n : H1 a = none) : EP1 K TB σ H0 env0 (upd H1 a o) env1 :=
  ⟨fun b u q h t => by rw [upd_ne (fun z => by rw [z, e.gone a n] at q; cases q)]; exact e.ext b u q h t, e.rep.new n, e.sub, e.asg, fun b q => by
    by_cases hb : b = a
    · rw [hb, upd_same] at q; cases q
    · rw [upd_ne hb] at q; exact e.gone b q, e.base⟩
/-- a fresh list, not owned by a name, is locked -/
theorem EP1.lockT {H0 H1 : Hp} {env0 env1 : DEnv} {a : Addr} {o : Obj} {xs : List V} (e : EP1 K TB σ H0 env0 H1 env1) (n : H0 a = none) (h : H1 a = some (.lst xs)) : EP1 K TB σ H0 env0 (upd H1 a (.frz o (.lst xs))) env1 ∧ Stay H1 (upd H1 a (.frz o (.lst xs))) := by
  have ne : ∀ b u, H1 b = some u → (∀ ys, u ≠ .lst ys) → b ≠ a := fun b u q w z => by
    rw [z, h] at q
    exact w xs (Option.some.inj q).symm
  have st : Stay H1 (upd H1 a (.frz o (.lst xs))) := ⟨fun b ys q => by rw [upd_ne (ne b _ q fun _ z => by cases z)]; exact q, fun b ob u q => by rw [upd_ne (ne b _ q fun _ z => by cases z)]; exact q⟩
  have no : ∀ b, OwnA env1 σ b → b ≠ a := fun b ow z => by
    obtain ⟨ys, q⟩ := e.base b (e.sub b ow)
    rw [z, n] at q
    cases q
  refine ⟨⟨fun b u q hn t => ?_, ⟨e.rep.len, fun i v q => ?_, e.rep.inj, tabs_upd e.rep.tabs (.inr ⟨_, h⟩)⟩, e.sub, e.asg, fun b q => ?_, e.base⟩, st⟩
  · rw [upd_ne (fun z => by rw [z, n] at q; cases q)]
    exact e.ext b u q hn t
  · obtain ⟨x, hx, rv⟩ := e.rep.at_ i v q
    refine ⟨x, hx, ?_⟩
    cases v with
    | d y => exact Fz.stay st rv
    | own ys =>
      obtain ⟨b, vs, rfl, e1, al⟩ := rv
      exact ⟨b, vs, rfl, by rw [upd_ne (no b ⟨i, ys, q, hx⟩)]; exact e1, FzAll.stay st al⟩
  · by_cases hb : b = a
    · rw [hb, upd_same] at q; cases q
    · rw [upd_ne hb] at q; exact e.gone b q
theorem get_set_self {e : DEnv} {i : Nat} {v w : Option DV} (h : e[i]? = some w) : (e.set i v)[i]? = some v := List.getElem?_set_self (List.getElem?_eq_some_iff.mp h).1
theorem get_set_ne {e : DEnv} {i j : Nat} {v : Option DV} (h : j ≠ i) : (e.set i v)[j]? = e[j]? := List.getElem?_set_ne (Ne.symm h)
/-- a name's list is locked -/
theorem EP1.lockN {H0 H1 : Hp} {env0 env1 : DEnv} {i : Nat} {a : Addr} {o : Obj} {ys : List PyData} {xs : List V} (e : EP1 K TB σ H0 env0 H1 env1) (hi : env1[i]? = some (some (DV.own ys))) (hs : σ[i]? = some (some (V.ref a))) (h : H1 a = some (.lst xs)) (al : FzAll K H1 xs ys) :
    EP1 K TB σ H0 env0 (upd H1 a (.frz o (.lst xs))) (env1.set i (some (DV.d (.list ys)))) ∧ Fz K (upd H1 a (.frz o (.lst xs))) (.ref a) (.list ys) ∧ Stay H1 (upd H1 a (.frz o (.lst xs))) := by
  have ne : ∀ b u, H1 b = some u → (∀ ys, u ≠ .lst ys) → b ≠ a := fun b u q w z => by
    rw [z, h] at q
    exact w xs (Option.some.inj q).symm
  have st : Stay H1 (upd H1 a (.frz o (.lst xs))) := ⟨fun b ys q => by rw [upd_ne (ne b _ q fun _ z => by cases z)]; exact q, fun b ob u q => by rw [upd_ne (ne b _ q fun _ z => by cases z)]; exact q⟩
  have ow : OwnA env0 σ a := e.sub a ⟨i, ys, hi, hs⟩
  have fz : Fz K (upd H1 a (.frz o (.lst xs))) (.ref a) (.list ys) := .lst upd_same (FzAll.stay st al)
  have own' : ∀ (j : Nat) (zs : List PyData), (env1.set i (some (DV.d (.list ys))))[j]? = some (some (DV.own zs)) → j ≠ i ∧ env1[j]? = some (some (DV.own zs)) := fun j zs q => by
    by_cases hj : j = i
    · subst hj
      rw [get_set_self hi] at q
      cases q
    · rw [get_set_ne hj] at q
      exact ⟨hj, q⟩
  refine ⟨⟨fun b u q hn t => ?_, ⟨by rw [List.length_set]; exact e.rep.len, fun j v q => ?_, fun j k xs' ys' b q1 q2 s1 s2 => e.rep.inj j k xs' ys' b (own' j _ q1).2 (own' k _ q2).2 s1 s2, tabs_upd e.rep.tabs (.inr ⟨_, h⟩)⟩, fun b q => ?_, fun j w q => ?_, fun b q => ?_, e.base⟩, fz, st⟩
  · rw [upd_ne (fun z => hn (by rw [z]; exact ow))]
    exact e.ext b u q hn t
  · by_cases hj : j = i
    · subst hj
      rw [get_set_self hi] at q
      cases q
      exact ⟨_, hs, fz⟩
    · rw [get_set_ne hj] at q
      obtain ⟨x, hx, rv⟩ := e.rep.at_ j v q
      refine ⟨x, hx, ?_⟩
      cases v with
      | d y => exact Fz.stay st rv
      | own zs =>
        obtain ⟨b, vs, rfl, e1, al'⟩ := rv
        exact ⟨b, vs, rfl, by rw [upd_ne (fun z => hj (e.rep.inj j i zs ys a q hi (by rw [← z]; exact hx) hs))]; exact e1, FzAll.stay st al'⟩
  · obtain ⟨j, zs, q1, q2⟩ := q
    exact e.sub b ⟨j, zs, (own' j zs q1).2, q2⟩
  · obtain ⟨w', h'⟩ := e.asg j w q
    by_cases hj : j = i
    · subst hj
      exact ⟨_, get_set_self h'⟩
    · exact ⟨w', by rw [get_set_ne hj]; exact h'⟩
  · by_cases hb : b = a
    · rw [hb, upd_same] at q; cases q
    · rw [upd_ne hb] at q; exact e.gone b q
/-- the result, never to change from now on -/
theorem frz_gf {H0 H1 : Hp} {env0 env1 env2 : DEnv} {v : V} {pv : PV} {x : PyData} {Pr : Hp → Prop} (e : EP1 K TB σ H0 env0 H1 env1) (h : PR K H0 H1 σ env1 v pv) (q : frz pv env1 = some (x, env2)) (k : ∀ H2, EP1 K TB σ H0 env0 H2 env2 → Stay H1 H2 → Fz K H2 v x → Pr H2) : GF H1 Pr := by
  cases pv with
  | val w =>
    cases w with
    | d y =>
      cases q
      exact .inl (k H1 e (Stay.refl _) h)
    | own ys =>
      cases q
      obtain ⟨a, vs, rfl, e1, al, n⟩ := h
      refine .inr ⟨a, vs, e1, fun o => ?_⟩
      obtain ⟨e2, st⟩ := e.lockT (o := o) n e1
      exact k _ e2 st (.lst upd_same (FzAll.stay st al))
  | slot i =>
    obtain ⟨hs, w, hw⟩ := h
    simp only [frz, hw] at q
    obtain ⟨x', hx', rv⟩ := e.rep.at_ i w hw
    rw [hs] at hx'
    cases hx'
    cases w with
    | d y =>
      cases q
      exact .inl (k H1 e (Stay.refl _) rv)
    | own ys =>
      cases q
      obtain ⟨a, vs, rfl, e1, al⟩ := rv
      refine .inr ⟨a, vs, e1, fun o => ?_⟩
      obtain ⟨e2, fz, st⟩ := e.lockN (o := o) hw hs e1 al
      exact k _ e2 st fz
/-- the result for a name -/
theorem tak_gf {H0 H1 : Hp} {env0 env1 env2 : DEnv} {v : V} {pv : PV} {x : DV} {Pr : Hp → Prop} (e : EP1 K TB σ H0 env0 H1 env1) (h : PR K H0 H1 σ env1 v pv) (q : tak pv env1 = some (x, env2)) (k : ∀ H2, EP1 K TB σ H0 env0 H2 env2 → Stay H1 H2 → PR K H0 H2 σ env2 v (.val x) → Pr H2) : GF H1 Pr := by
  cases pv with
  | val w =>
    cases q
    exact .inl (k H1 e (Stay.refl _) h)
  | slot i =>
    obtain ⟨hs, w, hw⟩ := h
    simp only [tak, hw] at q
    obtain ⟨x', hx', rv⟩ := e.rep.at_ i w hw
    rw [hs] at hx'
    cases hx'
    cases w with
    | d y =>
      cases q
      exact .inl (k H1 e (Stay.refl _) rv)
    | own ys =>
      cases q
      obtain ⟨a, vs, rfl, e1, al⟩ := rv
      refine .inr ⟨a, vs, e1, fun o => ?_⟩
      obtain ⟨e2, fz, st⟩ := e.lockN (o := o) hw hs e1 al
      exact k _ e2 st fz
/-- what a result reads as -/
theorem res_dp {H0 H1 : Hp} {env0 env1 : DEnv} {v : V} {pv : PV} {x : PyData} (e : EP1 K TB σ H0 env0 H1 env1) (h : PR K H0 H1 σ env1 v pv) (q : res pv env1 = some x) : Dp K H1 v x := by
  cases pv with
  | val w =>
    cases w with
    | d y =>
      cases q
      exact Fz.dp h
    | own ys =>
      cases q
      obtain ⟨a, vs, rfl, e1, al, n⟩ := h
      exact .lst (.inl (.inl e1)) al.dp
  | slot i =>
    obtain ⟨hs, w, hw⟩ := h
    simp only [res, hw] at q
    cases q
    obtain ⟨x', hx', rv⟩ := e.rep.at_ i w hw
    rw [hs] at hx'
    cases hx'
    exact rv.dp
/-- a result, later on -/
theorem PR.later {H0 H1 H2 : Hp} {env0 env1 env2 : DEnv} {v : V} {pv : PV} (e : EP1 K TB σ H0 env0 H1 env1) (h : PR K H0 H1 σ env1 v pv) (e2 : EP1 K TB σ H1 env1 H2 env2) : PR K H0 H2 σ env2 v pv := by
  cases pv with
  | val w =>
    cases w with
    | d y => exact Fz.stay e2.stay h
    | own ys =>
      obtain ⟨a, vs, rfl, e1, al, n⟩ := h
      refine ⟨a, vs, rfl, e2.ext a _ e1 (fun z => ?_) (fun _ z => by cases z), FzAll.stay e2.stay al, n⟩
      obtain ⟨ys, q⟩ := e.base a (e.sub a z)
      rw [n] at q
      cases q
  | slot i =>
    obtain ⟨hs, w, hw⟩ := h
    exact ⟨hs, e2.asg i w hw⟩
/-- a part's result, for the whole -/
theorem PR.whole {H0 H1 H2 : Hp} {env0 env1 env2 : DEnv} {v : V} {pv : PV} (e : EP1 K TB σ H0 env0 H1 env1) (h : PR K H1 H2 σ env2 v pv) : PR K H0 H2 σ env2 v pv := by
  cases pv with
  | val w =>
    cases w with
    | d y => exact h
    | own ys =>
      obtain ⟨a, vs, rfl, e1, al, n⟩ := h
      exact ⟨a, vs, rfl, e1, al, e.gone a n⟩
  | slot i => exact h
end
end Wd
/-! Wd 4: operators by data. -/
namespace Wd
open PySem PySem.Spec PyProof.Rows L2
section
variable {K : PySem.W.Frag} {TB : TL} {W : WEx} {σ : L2.St} {H : Hp}
/-- what a value is: frozen, or an owned list -/
def RD (K : PySem.W.Frag) (H : Hp) (v : V) (d : PyData) : Prop := ∃ w : DV, w.data = d ∧ RV K H v w
theorem RD.dp {v : V} {d : PyData} (h : RD K H v d) : Dp K H v d := by
  obtain ⟨w, rfl, r⟩ := h
  exact r.dp
theorem RD.none {v : V} (h : RD K H v .none) : v = .non := by
  obtain ⟨w, e, r⟩ := h
  cases w with
  | d y => cases e; cases r; rfl
  | own ys => cases e
theorem RD.bool {v : V} {b : Bool} (h : RD K H v (.bool b)) : v = .bl b := by
  obtain ⟨w, e, r⟩ := h
  cases w with
  | d y => cases e; cases r; rfl
  | own ys => cases e
theorem RD.int {v : V} {i : Int} (h : RD K H v (.int i)) : v = .int i := by
  obtain ⟨w, e, r⟩ := h
  cases w with
  | d y => cases e; cases r; rfl
  | own ys => cases e
theorem RD.str {v : V} {x : Str} (h : RD K H v (.str x)) : v = .str x := by
  obtain ⟨w, e, r⟩ := h
  cases w with
  | d y => cases e; cases r; rfl
  | own ys => cases e
theorem RD.list {v : V} {xs : List PyData} (h : RD K H v (.list xs)) : ∃ a vs, v = .ref a ∧ SqL K H a vs ∧ FzAll K H vs xs := by
  obtain ⟨w, e, r⟩ := h
  cases w with
  | d y =>
    cases e
    cases r with
    | lst h al => exact ⟨_, _, rfl, .inl (.inr ⟨_, h⟩), al⟩
    | lstK h1 h2 h3 h4 h5 h6 al => exact ⟨_, _, rfl, .inr ⟨_, _, _, h1, h2, h3, h4, h5, h6⟩, al⟩
  | own ys =>
    cases e
    obtain ⟨a, vs, rfl, e1, al⟩ := r
    exact ⟨a, vs, rfl, .inl (.inl e1), al⟩
theorem RD.tuple {v : V} {xs : List PyData} (h : RD K H v (.tuple xs)) : ∃ a vs, v = .ref a ∧ SqT K H a vs ∧ FzAll K H vs xs := by
  obtain ⟨w, e, r⟩ := h
  cases w with
  | d y =>
    cases e
    cases r with
    | tup h al => exact ⟨_, _, rfl, h, al⟩
  | own ys => cases e
theorem res_rd {H0 H1 : Hp} {env0 env1 : DEnv} {v : V} {pv : PV} {x : PyData} (e : EP1 K TB σ H0 env0 H1 env1) (h : PR K H0 H1 σ env1 v pv) (q : res pv env1 = some x) : RD K H1 v x := by
  cases pv with
  | val w =>
    cases w with
    | d y =>
      cases q
      exact ⟨.d _, rfl, h⟩
    | own ys =>
      cases q
      obtain ⟨a, vs, rfl, e1, al, n⟩ := h
      exact ⟨.own ys, rfl, a, vs, rfl, e1, al⟩
  | slot i =>
    obtain ⟨hs, w, hw⟩ := h
    simp only [res, hw] at q
    cases q
    obtain ⟨x', hx', rv⟩ := e.rep.at_ i w hw
    rw [hs] at hx'
    cases hx'
    exact ⟨w, rfl, rv⟩
/-- an operator's result: nothing new, or one new object -/
def Grow (K : PySem.W.Frag) (H H' : Hp) (v : V) : DV → Prop
  | .d z => (H' = H ∨ ∃ p o, H p = none ∧ H' = upd H p o) ∧ Fz K H' v z
  | .own zs => ∃ p vs, v = .ref p ∧ H p = none ∧ H' = upd H p (.lst vs) ∧ FzAll K H' vs zs
theorem grow_d {v : V} {z : PyData} (h : Fz K H v z) : Grow K H H v (.d z) := ⟨.inl rfl, h⟩
theorem grow_tup {p : Addr} {vs : List V} {zs : List PyData} (n : H p = none) (h : FzAll K H vs zs) : Grow K H (upd H p (.tup vs)) (.ref p) (.d (.tuple zs)) := ⟨.inr ⟨p, _, n, rfl⟩, .tup (.inl (.inl upd_same)) (FzAll.stay (stay_new n) h)⟩
theorem grow_lst {p : Addr} {vs : List V} {zs : List PyData} (n : H p = none) (h : FzAll K H vs zs) : Grow K H (upd H p (.lst vs)) (.ref p) (.own zs) := ⟨p, vs, rfl, n, rfl, FzAll.stay (stay_new n) h⟩
theorem EP1.grow {H0 H1 H2 : Hp} {env0 env1 : DEnv} {v : V} {dv : DV} (e : EP1 K TB σ H0 env0 H1 env1) (g : Grow K H1 H2 v dv) : EP1 K TB σ H0 env0 H2 env1 ∧ PR K H0 H2 σ env1 v (.val dv) := by
  cases dv with
  | d z =>
    obtain ⟨rfl | ⟨p, o, n, rfl⟩, h⟩ := g
    · exact ⟨e, h⟩
    · exact ⟨e.new n, h⟩
  | own zs =>
    obtain ⟨p, vs, rfl, n, rfl, h⟩ := g
    exact ⟨e.new n, p, vs, rfl, upd_same, h, e.gone p n⟩
def OpD (K : PySem.W.Frag) (r : R2) (f : PyData → PyData → Option DV) : Prop :=
  ∀ (H : Hp) (x y : V) (dx dy : PyData) (dv : DV), RD K H x dx → RD K H y dy → f dx dy = some dv → ∀ Q : VK, (∀ v H', Grow K H H' v dv → Q v H') → r x y H Q
/-! #### list + list, list * int, of any kind -/
def rCatL (K : PySem.W.Frag) : R2 := fun x y H Q => ∃ l b xs zs, x = .ref l ∧ y = .ref b ∧ SqL K H l xs ∧ SqL K H b zs ∧ xs.length + zs.length ≤ sizeLine ∧ ∀ p, H p = none → Q (.ref p) (upd H p (.lst (xs ++ zs)))
theorem op_catL {X : Cx} : OpR X (binaryOp .Add) (rCatL X.K) := by
  intro pins s σ H x y v u Q I rx ry h
  obtain ⟨l, b, xs, zs, rfl, rfl, hH, hB, hz, q⟩ := h
  cases rx
  cases ry
  obtain ⟨its, r, ⟨⟨cls, dd, data, sl⟩, n, ho, hc, hdd, hd⟩, z⟩ := I.list hH
  obtain ⟨its2, r2, ⟨⟨cls2, dd2, data2, sl2⟩, n2, ho2, hc2, hdd2, hd2⟩, z2⟩ := I.list hB
  simp only at hc hd hc2 hd2
  subst hc hd hc2 hd2
  have hl := r.length
  have hl2 := r2.length
  refine concat_meets ⟨_, ho, rfl⟩ ⟨_, ho2, rfl⟩ noFill_list_add seq_list_add PySem.F.slot_list_add PySem.F.entry_list_add (PySem.F.args_list_add_2 _ _) (list_addW l b its.toArray its2.toArray n n2 dd dd2 sl sl2 (by rw [List.size_toArray, List.size_toArray]; omega)) ⟨ho, ho2, ?_⟩
  have ea : its.toArray ++ its2.toArray = (its ++ its2).toArray := by simp
  rw [ea]
  exact ⟨.ref _, _, I.lnew (t' := s.toks) (r.append r2) (by rw [List.length_append]; omega), rfl, q _ I.fresh⟩
def rAddA (K : PySem.W.Frag) : R2 := fun x y H Q => (rI0 fun i j => .int (i + j)) x y H Q ∨ (∃ i j, x = .str i ∧ y = .str j ∧ i.length + j.length ≤ sizeLine ∧ Q (.str (i ++ j)) H) ∨ rCatA K x y H Q ∨ rCatL K x y H Q
theorem op_addA {X : Cx} : OpR X (binaryOp .Add) (rAddA X.K) := OpR.or op_add (OpR.or op_add_str (OpR.or op_catA op_catL))
theorem od_add : OpD K (rAddA K) (op2 .add) := by
  intro H x y dx dy dv hx hy e Q q
  cases dx <;> cases dy <;> simp only [op2, reduceCtorEq] at e
  · cases hx.int
    cases hy.int
    cases e
    exact .inl ⟨_, _, rfl, rfl, q _ _ (grow_d (.int _))⟩
  · cases hx.str
    cases hy.str
    split at e
    · cases e
      exact .inr (.inl ⟨_, _, rfl, rfl, by assumption, q _ _ (grow_d (.str _))⟩)
    · cases e
  · obtain ⟨a, vs, rfl, ha, fa⟩ := hx.list
    obtain ⟨b, ws, rfl, hb, fb⟩ := hy.list
    split at e
    · cases e
      rename_i hz
      exact .inr (.inr (.inr ⟨a, b, vs, ws, rfl, rfl, ha, hb, by rw [fa.length, fb.length]; exact hz, fun p n => q _ _ (grow_lst n (fa.append fb))⟩))
    · cases e
  · obtain ⟨a, vs, rfl, ha, fa⟩ := hx.tuple
    obtain ⟨b, ws, rfl, hb, fb⟩ := hy.tuple
    split at e
    · cases e
      rename_i hz
      refine .inr (.inr (.inl ⟨a, b, vs, ws, rfl, rfl, ha, hb, by rw [fa.length, fb.length]; exact hz, fun e0 => ?_, fun _ e0 => ?_, fun _ _ p n => q _ _ (grow_tup n (fa.append fb))⟩))
      · subst e0
        cases fa
        exact q _ _ (grow_d (.tup hb fb))
      · subst e0
        cases fb
        rw [List.append_nil] at q
        exact q _ _ (grow_d (.tup ha fa))
    · cases e
theorem od_sub : OpD K (rI0 fun i j => .int (i - j)) (op2 .sub) := by
  intro H x y dx dy dv hx hy e Q q
  cases dx <;> cases dy <;> simp only [op2, reduceCtorEq] at e
  cases hx.int
  cases hy.int
  cases e
  exact ⟨_, _, rfl, rfl, q _ _ (grow_d (.int _))⟩
def CDivA (_ j : Int) : Prop := j ≠ 0 ∧ j.natAbs.log2 < 9000
theorem op_fdivA {X : Cx} : OpR X (binaryOp .FloorDiv) (rI CDivA fun i j => .int (i.fdiv j)) := opI fun i j _ _ _ _ _ hc q => floordiv_int hc.1 q (.inl (PyProof.noPylong_of_log2 hc.2))
theorem od_fdiv : OpD K (rI CDivA fun i j => .int (i.fdiv j)) (op2 .fdiv) := by
  intro H x y dx dy dv hx hy e Q q
  cases dx <;> cases dy <;> simp only [op2, reduceCtorEq] at e
  cases hx.int
  cases hy.int
  split at e
  · cases e
    rename_i h
    simp only [divOk, Bool.and_eq_true, decide_eq_true_eq] at h
    exact ⟨_, _, rfl, rfl, h, q _ _ (grow_d (.int _))⟩
  · cases e
theorem od_mod : OpD K (rI (fun _ j => j ≠ 0) fun i j => .int (i.fmod j)) (op2 .mod) := by
  intro H x y dx dy dv hx hy e Q q
  cases dx <;> cases dy <;> simp only [op2, reduceCtorEq] at e
  cases hx.int
  cases hy.int
  split at e
  · cases e
    rename_i h
    exact ⟨_, _, rfl, rfl, h, q _ _ (grow_d (.int _))⟩
  · cases e
theorem od_pow : OpD K (rI CPow fun i j => .int (i ^ j.toNat)) (op2 .pow) := by
  intro H x y dx dy dv hx hy e Q q
  cases dx <;> cases dy <;> simp only [op2, reduceCtorEq] at e
  cases hx.int
  cases hy.int
  split at e
  · cases e
    rename_i h
    exact ⟨_, _, rfl, rfl, h, q _ _ (grow_d (.int _))⟩
  · cases e
end
end Wd
/-! Wd 5: expressions, one by one. -/
namespace Wd
open PySem PySem.Spec PyProof.Rows L2
section
variable {X : Cx} {TB : TL} {W : WEx}
def SoE (X : Cx) (TB : TL) (W : WEx) (e : Expr) (f : DEnv → R PV) : Prop := ∃ t, PE X e t ∧ Snd X.K TB W t f (fun H H' σ env' v pv => PR X.K H H' σ env' v pv)
def SoT (X : Cx) (TB : TL) (W : WEx) (e : Expr) (f : DEnv → R Bool) : Prop := ∃ t, PT X e t ∧ Snd X.K TB W t f (fun _ _ _ _ b a => b = a)
def SoA (X : Cx) (TB : TL) (W : WEx) (es : List Expr) (f : DEnv → R (List PyData)) : Prop := ∃ t, PA X es t ∧ Snd X.K TB W t f (fun _ H' _ _ vs xs => FzAll X.K H' vs xs)
inductive RDAll (K : PySem.W.Frag) (H : Hp) : List V → List PyData → Prop
  | nil : RDAll K H [] []
  | cons {v : V} {vs : List V} {d : PyData} {ds : List PyData} : RD K H v d → RDAll K H vs ds → RDAll K H (v :: vs) (d :: ds)
def SoP (X : Cx) (TB : TL) (W : WEx) (es : List Expr) (f : DEnv → R (List PyData)) : Prop := ∃ t, PA X es t ∧ Snd X.K TB W t f (fun _ H' _ _ vs xs => RDAll X.K H' vs xs)
def SoO (X : Cx) (TB : TL) (W : WEx) (e : Option Expr) (f : DEnv → R (Option Int)) : Prop := ∃ t, PO X e t ∧ Snd X.K TB W t f (fun _ _ _ _ b a => b = a)
variable {O : Orc}
theorem so_var {i : Nat} {x : Str} {pos : Pos} (hN : X.N[i]? = some x) (hv : Vis X.env.scope x) (hd : (x == ("__debug__" : Str)) = false) (hcd : (x == ("__classdict__" : Str)) = false) : SoE X TB W (.Name x pos) (ev O (.var i)) := by
  refine ⟨_, pe_var hN hv hd hcd, fun σ H env r => ?_⟩
  simp only [ev]
  split
  · rename_i v h
    obtain ⟨y, hy, rv⟩ := r.at_ i v h
    exact sa_val fun Q k => ⟨y, hy, k y H (EP1.refl r) ⟨hy, v, h⟩⟩
  · exact sa_bad
theorem so_int {i : Int} {j pos} : SoE X TB W (.Constant (.int i) j pos) (ev O (.int i)) := ⟨_, pe_int, fun σ H env r => sa_val fun Q k => k (.int i) H (EP1.refl r) (Fz.int i)⟩
theorem so_str {x : Str} {j pos} : SoE X TB W (.Constant (.str x) j pos) (ev O (.str x)) := ⟨_, pe_str, fun σ H env r => sa_val fun Q k => k (.str x) H (EP1.refl r) (Fz.str x)⟩
theorem so_bl {b : Bool} {j pos} : SoE X TB W (.Constant (.bool b) j pos) (ev O (.bl b)) := ⟨_, pe_bl, fun σ H env r => sa_val fun Q k => k (.bl b) H (EP1.refl r) (Fz.bl b)⟩
theorem so_non {j pos} : SoE X TB W (.Constant .none j pos) (ev O .non) := ⟨_, pe_non, fun σ H env r => sa_val fun Q k => k .non H (EP1.refl r) Fz.non⟩
/-- a constant of the module -/
theorem so_glo {x : Str} {k : Nat} {d : PyData} {v : V} {u : Value} {pos : Pos} (hO : O.glo[k]? = some d) (hg : Gl X x) (hm : X.mg x = some u) (r : RelV v u) (hz : ∀ H, Fz X.K H v d) (hd : (x == ("__debug__" : Str)) = false) : SoE X TB W (.Name x pos) (ev O (.glo k)) := by
  refine ⟨_, pe_glob hg hm r hd, fun σ H env re => ?_⟩
  simp only [ev, hO, Option.map_some, lift1]
  exact sa_val fun Q k => k v H (EP1.refl re) (hz H)
section
variable {a b : Expr} {fa fb : DEnv → R PV} {pos : Pos}
theorem so_bin {o : Operator} {r : R2} {f : PyData → PyData → Option DV} (ho : OpR X (binaryOp o) r) (od : OpD X.K r f) (ha : SoE X TB W a fa) (hb : SoE X TB W b fb) :
    SoE X TB W (.BinOp a o b pos) (fun e => (fa e).bind fun pa e1 => (fb e1).bind fun pb e2 => lift1 ((res pa e2).bind fun x => (res pb e2).bind fun y => (f x y).map .val) e2) := by
  obtain ⟨ta, pa, sa⟩ := ha
  obtain ⟨tb, pb, sb⟩ := hb
  refine ⟨_, pe_op ho pa pb, fun σ H env re => ?_⟩
  show SndAt X.K TB W σ H env (fun Q => ta σ H fun x H1 => tb σ H1 fun y H2 => r x y H2 Q) _ _
  refine sa_bind (sa σ H env re) fun x pa H1 env1 e1 r1 => ?_
  refine sa_bind (sb.at e1) fun y pb H2 env2 e2 ⟨e12, r2⟩ => ?_
  refine lift1_sa fun dv hdv => ?_
  simp only [Option.bind_eq_some_iff, Option.map_eq_some_iff] at hdv
  obtain ⟨dx, hx, dy, hy, v, hv, rfl⟩ := hdv
  refine sa_val fun Q k => od H2 x y dx dy v (res_rd e2 (r1.later e1 e12) hx) (res_rd e2 (r2.whole e1) hy) hv Q fun z H3 g => ?_
  obtain ⟨e3, r3⟩ := e2.grow g
  exact k z H3 e3 r3
theorem so_rep (ha : SoE X TB W a fa) (hb : SoE X TB W b fb) :
    SoE X TB W (.BinOp a .Mult b pos) (fun e => (fa e).bind fun pa e1 => (fb e1).bind fun pb e2 => match pa, res pb e2 with
      | .val (.own xs), some (.int k) => if -(2 ^ 63) ≤ k ∧ k < 2 ^ 63 ∧ xs.length * k.toNat ≤ sizeLine then .ok (.val (.own (List.replicate k.toNat xs).flatten)) e2 else .bad
      | _, _ => .bad) := by
  obtain ⟨ta, pa, sa⟩ := ha
  obtain ⟨tb, pb, sb⟩ := hb
  refine ⟨_, pe_op op_rep pa pb, fun σ H env re => ?_⟩
  show SndAt X.K TB W σ H env (fun Q => ta σ H fun x H1 => tb σ H1 fun y H2 => rRep x y H2 Q) _ _
  refine sa_bind (sa σ H env re) fun x pa H1 env1 e1 r1 => ?_
  refine sa_bind (sb.at e1) fun y pb H2 env2 e2 ⟨e12, r2⟩ => ?_
  split
  · rename_i xs k hk
    split
    · rename_i hz
      obtain ⟨p, vs, rfl, h1, al, n⟩ := r1.later e1 e12
      cases (res_rd e2 (r2.whole e1) hk).int
      refine sa_val fun Q kk => ⟨p, k, vs, rfl, rfl, h1, hz.1, hz.2.1, by rw [al.length]; exact hz.2.2, fun q nq => ?_⟩
      obtain ⟨e3, r3⟩ := e2.grow (grow_lst nq (al.rep k.toNat))
      exact kk _ _ e3 r3
    · exact sa_bad
  · exact sa_bad
theorem so_neg (ha : SoE X TB W a fa) : SoE X TB W (.UnaryOp .USub a pos) (fun e => (fa e).bind fun pa e1 => lift1 ((res pa e1).bind fun x => (neg1 x).map .val) e1) := by
  obtain ⟨ta, pa, sa⟩ := ha
  refine ⟨_, pe_un un_neg pa, fun σ H env re => ?_⟩
  show SndAt X.K TB W σ H env (fun Q => ta σ H fun x H1 => (rU fun i => V.int (-i)) x H1 Q) _ _
  refine sa_bind (sa σ H env re) fun x pa H1 env1 e1 r1 => ?_
  refine lift1_sa fun dv hdv => ?_
  simp only [Option.bind_eq_some_iff, Option.map_eq_some_iff] at hdv
  obtain ⟨dx, hx, v, hv, rfl⟩ := hdv
  cases dx <;> simp only [neg1, reduceCtorEq] at hv
  cases hv
  cases (res_rd e1 r1 hx).int
  exact sa_val fun Q k => ⟨_, rfl, k _ H1 e1 (Fz.int _)⟩
/-- a test, as a value -/
theorem so_ife {c : Expr} {fc : DEnv → R Bool} (hc : SoT X TB W c fc) (ha : SoE X TB W a fa) (hb : SoE X TB W b fb) : SoE X TB W (.IfExp c a b pos) (fun e => (fc e).bind fun t e1 => if t then fa e1 else fb e1) := by
  obtain ⟨tc, pc, sc⟩ := hc
  obtain ⟨ta, pa, sa⟩ := ha
  obtain ⟨tb, pb, sb⟩ := hb
  refine ⟨_, pe_ifExp pc pa pb, fun σ H env re => ?_⟩
  show SndAt X.K TB W σ H env (fun Q => tc σ H fun c H1 => if c = true then ta σ H1 Q else tb σ H1 Q) _ _
  refine sa_bind (sc σ H env re) fun x t H1 env1 e1 r1 => ?_
  cases r1
  cases x with
  | true => exact sa_mono (sa.at e1) fun H' env' y pv e2 ⟨e12, r2⟩ => r2.whole e1
  | false => exact sa_mono (sb.at e1) fun H' env' y pv e2 ⟨e12, r2⟩ => r2.whole e1
theorem so_idx {i : Expr} {fi : DEnv → R PV} (hs : PlainIx i) (ha : SoE X TB W a fa) (hi : SoE X TB W i fi) :
    SoE X TB W (.Subscript a i pos) (fun e => (fa e).bind fun pa e1 => (fi e1).bind fun pi e2 => lift1 ((res pa e2).bind fun x => (res pi e2).bind fun y => (ixd x y).map .val) e2) := by
  obtain ⟨ta, pa, sa⟩ := ha
  obtain ⟨ti, pi, si⟩ := hi
  refine ⟨_, pe_ix ix_seq pa pi hs, fun σ H env re => ?_⟩
  show SndAt X.K TB W σ H env (fun Q => ta σ H fun x H1 => ti σ H1 fun y H2 => rIx X.K x y H2 Q) _ _
  refine sa_bind (sa σ H env re) fun x pa H1 env1 e1 r1 => ?_
  refine sa_bind (si.at e1) fun y pi H2 env2 e2 ⟨e12, r2⟩ => ?_
  refine lift1_sa fun dv hdv => ?_
  simp only [Option.bind_eq_some_iff, Option.map_eq_some_iff] at hdv
  obtain ⟨dx, hx, dy, hy, v, hv, rfl⟩ := hdv
  have rx := res_rd e2 (r1.later e1 e12) hx
  have ry := res_rd e2 (r2.whole e1) hy
  have at_of : ∀ {vs : List V} {ds : List PyData} {i : Int} {d : PyData}, FzAll X.K H2 vs ds → atI ds i = some d → ∃ w, atI vs i = some w ∧ Fz X.K H2 w d := fun {vs ds i d} al e => by
    unfold atI at e ⊢
    rw [al.length]
    cases q : ixN ds.length i with
    | none => rw [q] at e; cases e
    | some j =>
      rw [q] at e
      exact al.get e
  cases dx <;> cases dy <;> simp only [ixd, reduceCtorEq] at hv
  · rename_i z i
    cases rx.str
    cases ry.int
    split at hv
    · rename_i hz
      rw [Option.map_eq_some_iff] at hv
      obtain ⟨c, hc, rfl⟩ := hv
      exact sa_val fun Q k => .inr (.inr ⟨z, i, c, rfl, rfl, hz, hc, k _ H2 e2 (Fz.str _)⟩)
    · cases hv
  · cases ry.int
    obtain ⟨p, vs, rfl, h1, al⟩ := rx.list
    rw [Option.map_eq_some_iff] at hv
    obtain ⟨d, hd, rfl⟩ := hv
    obtain ⟨w, hw, fw⟩ := at_of al hd
    exact sa_val fun Q k => .inl ⟨p, vs, _, w, rfl, rfl, h1, hw, k _ H2 e2 fw⟩
  · cases ry.int
    obtain ⟨p, vs, rfl, h1, al⟩ := rx.tuple
    rw [Option.map_eq_some_iff] at hv
    obtain ⟨d, hd, rfl⟩ := hv
    obtain ⟨w, hw, fw⟩ := at_of al hd
    exact sa_val fun Q k => .inr (.inl ⟨p, vs, _, w, rfl, rfl, h1, hw, k _ H2 e2 fw⟩)
end
section
variable {e a : Expr} {es : List Expr} {f fa : DEnv → R PV} {fs : DEnv → R (List PyData)} {pos : Pos}
theorem so_nilA : SoA X TB W [] (fun e => .ok [] e) := ⟨_, pa_nil, fun σ H env re => sa_val fun Q k => k [] H (EP1.refl re) .nil⟩
theorem so_consA (hs : starEach (e :: es) X.env = (false, eval e X.env) :: starEach es X.env) (he : SoE X TB W e f) (hr : SoA X TB W es fs) :
    SoA X TB W (e :: es) (fun e => (f e).bind fun p e1 => match frz p e1 with
      | some (x, e2) => (fs e2).bind fun xs e3 => .ok (x :: xs) e3
      | none => .bad) := by
  obtain ⟨te, pe, se⟩ := he
  obtain ⟨tr, pr, sr⟩ := hr
  refine ⟨_, pa_cons (pe_gf pe) pr hs, fun σ H env re => ?_⟩
  show SndAt X.K TB W σ H env (fun Q => te σ H fun x H1 => GF H1 fun H2 => tr σ H2 fun xs H3 => Q (x :: xs) H3) _ _
  refine sa_bind (se σ H env re) fun x p H1 env1 e1 r1 => ?_
  cases q : frz p env1 with
  | none => exact sa_bad
  | some w =>
    obtain ⟨y, env2⟩ := w
    have go : ∀ H2, EP1 X.K TB σ H env H2 env2 → Fz X.K H2 x y → SndAt X.K TB W σ H env (fun Q : List V → Hp → Prop => tr σ H2 fun xs H3 => Q (x :: xs) H3) ((fs env2).bind fun xs e3 => .ok (y :: xs) e3) (fun H' _ vs xs => FzAll X.K H' vs xs) := fun H2 e2 fz => by
      refine sa_bind (sr.at e2) fun xs ds H3 env3 e3 ⟨e23, r3⟩ => ?_
      exact sa_val fun Q k => k _ H3 e3 (.cons (Fz.stay e23.stay fz) r3)
    refine ⟨fun a env' hq Q k => frz_gf e1 r1 q fun H2 e2 _ fz => (go H2 e2 fz).1 a env' hq Q k, fun k hq hw Q => frz_gf e1 r1 q fun H2 e2 _ fz => (go H2 e2 fz).2 k hq hw Q⟩
/-- a starred element: a list or a tuple, its items taken at once -/
theorem so_starA {sp_ : Pos} (he : SoE X TB W e f) (hr : SoA X TB W es fs) :
    SoA X TB W (.Starred e sp_ :: es) (fun e => (f e).bind fun p e1 => match (res p e1).bind seqD with
      | some ys => (fs e1).bind fun xs e3 => .ok (ys ++ xs) e3
      | none => .bad) := by
  obtain ⟨te, pe, se⟩ := he
  obtain ⟨tr, pr, sr⟩ := hr
  refine ⟨_, StX.pa_star pe pr, fun σ H env re => ?_⟩
  show SndAt X.K TB W σ H env (fun Q => te σ H fun y H1 => ∃ a xs, y = V.ref a ∧ (SqT X.K H1 a xs ∨ SqL X.K H1 a xs) ∧ tr σ H1 fun vs H2 => Q (xs ++ vs) H2) _ _
  refine sa_bind (se σ H env re) fun x p H1 env1 e1 r1 => ?_
  cases q : (res p env1).bind seqD with
  | none => exact sa_bad
  | some ys =>
    rw [Option.bind_eq_some_iff] at q
    obtain ⟨d, hd, hy⟩ := q
    have rd := res_rd e1 r1 hd
    have go : ∀ (a : Addr) (ws : List V), (SqT X.K H1 a ws ∨ SqL X.K H1 a ws) → x = V.ref a → FzAll X.K H1 ws ys → SndAt X.K TB W σ H env (fun Q : List V → Hp → Prop => ∃ a xs, x = V.ref a ∧ (SqT X.K H1 a xs ∨ SqL X.K H1 a xs) ∧ tr σ H1 fun vs H2 => Q (xs ++ vs) H2) ((fs env1).bind fun xs e3 => .ok (ys ++ xs) e3) (fun H' _ vs xs => FzAll X.K H' vs xs) := fun a ws hs hx al => by
      have s0 : SndAt X.K TB W σ H env (fun Q : List V → Hp → Prop => tr σ H1 fun xs H3 => Q (ws ++ xs) H3) ((fs env1).bind fun xs e3 => .ok (ys ++ xs) e3) (fun H' _ vs xs => FzAll X.K H' vs xs) := by
        refine sa_bind (sr.at e1) fun xs ds H3 env3 e3 ⟨e23, r3⟩ => ?_
        exact sa_val fun Q k => k _ H3 e3 ((FzAll.stay e23.stay al).append r3)
      exact ⟨fun a2 env' hq Q k => ⟨a, ws, hx, hs, s0.1 a2 env' hq Q k⟩, fun k hq hw Q => ⟨a, ws, hx, hs, s0.2 k hq hw Q⟩⟩
    cases d <;> simp only [seqD, reduceCtorEq, Option.some.injEq] at hy
    · subst hy
      obtain ⟨a, ws, ex, hs, al⟩ := rd.list
      exact go a ws (.inr hs) ex al
    · subst hy
      obtain ⟨a, ws, ex, hs, al⟩ := rd.tuple
      exact go a ws (.inl hs) ex al
theorem RDAll.length {K : PySem.W.Frag} {H : Hp} : ∀ {vs : List V} {ds : List PyData}, RDAll K H vs ds → vs.length = ds.length
  | _, _, .nil => rfl
  | _, _, .cons _ r => congrArg (· + 1) (RDAll.length r)
theorem so_nilP : SoP X TB W [] (fun e => .ok [] e) := ⟨_, pa_nil, fun σ H env re => sa_val fun Q k => k [] H (EP1.refl re) .nil⟩
theorem so_consP (hs : starEach (e :: es) X.env = (false, eval e X.env) :: starEach es X.env) (he : SoE X TB W e f) (hr : SoP X TB W es fs) :
    SoP X TB W (e :: es) (fun e => (f e).bind fun p e1 => (fs e1).bind fun xs e2 => lift1 ((res p e2).map (· :: xs)) e2) := by
  obtain ⟨te, pe, se⟩ := he
  obtain ⟨tr, pr, sr⟩ := hr
  refine ⟨_, pa_cons pe pr hs, fun σ H env re => ?_⟩
  show SndAt X.K TB W σ H env (fun Q => te σ H fun x H1 => tr σ H1 fun xs H2 => Q (x :: xs) H2) _ _
  refine sa_bind (se σ H env re) fun x p H1 env1 e1 r1 => ?_
  refine sa_bind (sr.at e1) fun xs ds H2 env2 e2 ⟨e12, r2⟩ => ?_
  refine lift1_sa fun dl hd => ?_
  rw [Option.map_eq_some_iff] at hd
  obtain ⟨d, hd, rfl⟩ := hd
  exact sa_val fun Q k => k _ H2 e2 (.cons (res_rd e2 (r1.later e1 e12) hd) r2)
theorem so_tup {x1} (h : SoA X TB W es fs) : SoE X TB W (.Tuple es x1 pos) (fun e => (fs e).bind fun xs e1 => if xs.length ≤ sizeLine then .ok (.val (.d (.tuple xs))) e1 else .bad) := by
  obtain ⟨t, p, s⟩ := h
  refine ⟨_, pe_tup p, fun σ H env re => ?_⟩
  show SndAt X.K TB W σ H env (fun Q => t σ H fun xs H1 => xs.length ≤ sizeLine ∧ ∀ p, H1 p = none → Q (V.ref p) (upd H1 p (.tup xs))) _ _
  refine sa_bind (s σ H env re) fun vs xs H1 env1 e1 r1 => ?_
  split
  · rename_i hz
    refine sa_val fun Q k => ⟨by rw [r1.length]; exact hz, fun p n => ?_⟩
    obtain ⟨e2, r2⟩ := e1.grow (grow_tup n r1)
    exact k _ _ e2 r2
  · exact sa_bad
theorem so_lst (h : SoA X TB W es fs) : SoE X TB W (.List es pos) (fun e => (fs e).bind fun xs e1 => if xs.length ≤ sizeLine then .ok (.val (.own xs)) e1 else .bad) := by
  obtain ⟨t, p, s⟩ := h
  refine ⟨_, pe_lst p, fun σ H env re => ?_⟩
  show SndAt X.K TB W σ H env (fun Q => t σ H fun xs H1 => xs.length ≤ sizeLine ∧ ∀ p, H1 p = none → Q (V.ref p) (upd H1 p (.lst xs))) _ _
  refine sa_bind (s σ H env re) fun vs xs H1 env1 e1 r1 => ?_
  split
  · rename_i hz
    refine sa_val fun Q k => ⟨by rw [r1.length]; exact hz, fun p n => ?_⟩
    obtain ⟨e2, r2⟩ := e1.grow (grow_lst n r1)
    exact k _ _ e2 r2
  · exact sa_bad
theorem so_noO : SoO X TB W none (fun e => .ok none e) := ⟨_, po_none, fun σ H env re => sa_val fun Q k => k none H (EP1.refl re) rfl⟩
theorem so_soO (h : SoE X TB W e f) : SoO X TB W (some e) (fun e => (f e).bind fun p e1 => match res p e1 with
    | some (.int i) => .ok (some i) e1
    | _ => .bad) := by
  obtain ⟨t, p, s⟩ := h
  refine ⟨_, po_some p, fun σ H env re => ?_⟩
  show SndAt X.K TB W σ H env (fun Q => t σ H fun x H1 => ∃ i, x = V.int i ∧ Q (some i) H1) _ _
  refine sa_bind (s σ H env re) fun v p H1 env1 e1 r1 => ?_
  split
  · rename_i i hi
    cases (res_rd e1 r1 hi).int
    exact sa_val fun Q k => ⟨i, rfl, k (some i) H1 e1 rfl⟩
  · exact sa_bad
theorem cut_fz {K : PySem.W.Frag} {H : Hp} {vs : List V} {ds : List PyData} (al : FzAll K H vs ds) (lo hi : Option Int) : FzAll K H (cutV vs lo hi) (cutD ds lo hi) := by
  unfold cutV cutD
  rw [al.length]
  exact (al.drop _).take _
/-- strs sliced: not yet -/
theorem fz_rev {K : PySem.W.Frag} {H : Hp} : ∀ {vs : List V} {ds : List PyData}, FzAll K H vs ds → FzAll K H vs.reverse ds.reverse
  | _, _, .nil => .nil
  | _, _, .cons h r => by
    rw [List.reverse_cons, List.reverse_cons]
    exact (fz_rev r).append (.cons h .nil)
theorem so_slc {lo hi : Option Expr} {fl fh : DEnv → R (Option Int)} {p2 : Pos} (ha : SoE X TB W a fa) (hl : SoO X TB W lo fl) (hh : SoO X TB W hi fh) :
    SoE X TB W (.Subscript a (.Slice lo hi none p2) pos) (fun e => (fa e).bind fun pa e1 => (fl e1).bind fun l e2 => (fh e2).bind fun h e3 => lift1 ((res pa e3).bind fun x => (slcd x l h).map .val) e3) := by
  obtain ⟨ta, pa, sa⟩ := ha
  obtain ⟨tl, pl, sl⟩ := hl
  obtain ⟨th, ph, sh⟩ := hh
  refine ⟨_, pe_slice (SlR.or (SlR.or sl_list sl_tupA) sl_str) pa pl ph, fun σ H env re => ?_⟩
  show SndAt X.K TB W σ H env (fun Q => ta σ H fun x H1 => tl σ H1 fun l H2 => th σ H2 fun u H3 => ((rSlL X.K x l u H3 Q ∨ rSlA X.K x l u H3 Q) ∨ rSlS x l u H3 Q)) _ _
  refine sa_bind (sa σ H env re) fun x pa H1 env1 e1 r1 => ?_
  refine sa_bind (sl.at e1) fun l l' H2 env2 e2 ⟨e12, r2⟩ => ?_
  cases r2
  refine sa_bind (sh.at e2) fun h h' H3 env3 e3 ⟨e23, r3⟩ => ?_
  cases r3
  refine lift1_sa fun dv hdv => ?_
  simp only [Option.bind_eq_some_iff, Option.map_eq_some_iff] at hdv
  obtain ⟨dx, hx, v, hv, rfl⟩ := hdv
  have rx := res_rd e3 (r1.later e1 (e12.trans e23)) hx
  cases dx <;> simp only [slcd, reduceCtorEq] at hv
  · split at hv
    · rename_i hz
      cases hv
      cases rx.str
      exact sa_val fun Q k => .inr ⟨_, rfl, hz, k _ H3 e3 (Fz.str _)⟩
    · cases hv
  · cases hv
    obtain ⟨p, vs, rfl, h1, al⟩ := rx.list
    refine sa_val fun Q k => .inl (.inl ⟨p, vs, rfl, h1, fun q n => ?_⟩)
    obtain ⟨e4, r4⟩ := e3.grow (grow_lst n (cut_fz al l h))
    exact k _ _ e4 r4
  · rename_i ds
    cases hv
    obtain ⟨p, vs, rfl, h1, al⟩ := rx.tuple
    refine sa_val fun Q k => .inl (.inr ⟨p, vs, rfl, h1, fun ⟨w1, w2⟩ => ?_, fun _ q n => ?_⟩)
    · have e0 : cutD ds l h = ds := by
        unfold cutD
        rw [← al.length, w1, w2]
        show List.take (vs.length - 0) ds = ds
        rw [Nat.sub_zero, al.length]
        exact List.take_length
      exact k _ _ e3 (by rw [e0]; exact .tup h1 al)
    · obtain ⟨e4, r4⟩ := e3.grow (grow_tup n (cut_fz al l h))
      exact k _ _ e4 r4
/-! #### x[::-1] -/
def tRevA (K : PySem.W.Frag) (te : TE) : TE := fun σ H Q => te σ H fun x H1 => (∃ a xs, x = .ref a ∧ SqL K H1 a xs ∧ ∀ p, H1 p = none → Q (.ref p) (upd H1 p (.lst xs.reverse))) ∨ (∃ z, x = .str z ∧ z.length ≤ sizeLine ∧ Q (.str ⟨z.cps.toList.reverse.toArray⟩) H1)
theorem rev_pick (z : Str) : (Builtin.Str.strSliceIndices none none (-1) z.length).filterMap (z.cps[·]?) = z.cps.toList.reverse := by
  have e : Builtin.Str.strSliceIndices none none (-1) z.length = sliceRange ((z.length : Int) - 1) (-1) (-1) := by
    have h1 : ¬ ((-1 : Int) > 0) := by decide
    simp only [Builtin.Str.strSliceIndices, h1, if_false]
  rw [e, PySem.W.krv_sliceRange, PySem.W.krv_range, List.filterMap_reverse]
  exact congrArg _ (PySem.W.krv_all z.cps)
theorem pe_revA {e : Expr} {te : TE} {k : Nat} {p1 p2 p3 pos : Pos} (he : PE X e te) : PE X (.Subscript e (.Slice none none (some (.UnaryOp .USub (.Constant (.int 1) k p1) p2)) p3) pos) (tRevA X.K te) := by
  refine ⟨fun pins s σ H Q I h => ?_⟩
  refine Subscript_ (thn (he.run pins s σ H _ I h) fun v s1 ⟨x, H1, I1, r1, q1⟩ => ?_)
  have hst : PO X (some (.UnaryOp .USub (.Constant (.int 1) k p1) p2)) (tPart (tUn (rU fun i => .int (-i)) (tC (.int 1)))) := po_some (pe_un un_neg pe_int)
  refine wpAny_Slice (thn (po_none.run pins s1 σ H1 (fun o H2 => o = none ∧ H2 = H1) I1 ⟨rfl, rfl⟩) fun vl s2 ⟨l, H2, I2, pl, el, e2⟩ => ?_)
  subst el e2
  refine thn (po_none.run pins s2 σ H2 (fun o H3 => o = none ∧ H3 = H2) I2 ⟨rfl, rfl⟩) fun vu s3 ⟨u, H3, I3, pu, eu, e3⟩ => ?_
  subst eu e3
  refine thn (hst.run pins s3 σ H3 (fun o H4 => o = some (-1) ∧ H4 = H3) I3 ⟨1, rfl, -1, rfl, rfl, rfl⟩) fun vs s4 ⟨o, H4, I4, ps, eo, e4⟩ => ?_
  subst eo e4
  have I5 : Inv X pins σ H4 { s4 with heap := s4.heap.push { cls := .type "slice", data := .fields #[vl, vu, vs] } } := I4.kept (t' := s4.toks) fun b ob q => Heap.get?_push_of_some _ q
  rcases q1 with ⟨a, xs, ex, hx, q⟩ | ⟨z, ex, hz, q⟩
  · subst ex
    cases r1
    obtain ⟨its, r, ht, hz⟩ := I5.list hx
    have hlen := r.length
    show wpAny (model X.prog X.w) X.A (subscriptTail e (.Slice none none (some (.UnaryOp .USub (.Constant (.int 1) k p1) p2)) p3) (.ref a) (.ref s4.heap.objs.size)) (EP X pins σ Q) X.xe { s4 with heap := s4.heap.push { cls := .type "slice", data := .fields #[vl, vu, vs] } }
    refine tail_any (ops := [.ref a, .ref s4.heap.objs.size]) ht.isList.typeIs (PySem.slot_list_getitem.lookup) ?_ (by with_unfolding_all rfl)
    refine wpAny_getItem_list_slice ht.isList (Heap.IsSliceOf.new _ vl vu vs) pl pu ps (by decide) ?_ (by rw [List.size_toArray]; omega)
    rw [PySem.W.krv_pick]
    refine ⟨.ref _, _, I5.laid (t' := s4.toks) (o := .lst xs.reverse) (fun b ob q => Heap.get?_push_of_some _ q) (Nat.le_refl _) ?_, rfl, q _ (I5.hok.fresh (Nat.le_refl _))⟩
    exact ⟨by rw [List.length_reverse]; exact hz, _, 0, r.reverse, Heap.get?_push_size _ rfl⟩
  · subst ex
    obtain ⟨t, rfl⟩ := _root_.id r1
    obtain ⟨l, rfl, hl⟩ := IsPart.raw pl
    obtain ⟨u, rfl, hu⟩ := IsPart.raw pu
    obtain ⟨st, rfl, hs⟩ := IsPart.raw ps
    show wpAny (model X.prog X.w) X.A (subscriptTail e (.Slice none none (some (.UnaryOp .USub (.Constant (.int 1) k p1) p2)) p3) (.str z t) (.ref s4.heap.objs.size)) (EP X pins σ Q) X.xe { s4 with heap := s4.heap.push { cls := .type "slice", data := .fields #[partValue l, partValue u, partValue st] } }
    refine tail_any (T := "str") (ops := [.str z t, .ref s4.heap.objs.size]) (typeIs_str _ _ _) (PySem.F.slot_str_getitem.lookup) ?_ (by with_unfolding_all rfl)
    refine wpAny_getItem_str_slice (l := l) (u := u) (st := st) ⟨_, Heap.get?_push_size _ rfl, rfl, rfl⟩ (by rw [hs]; rfl) ?_
    have e1 : sliceMade z t l u st = .str ⟨z.cps.toList.reverse.toArray⟩ := by
      unfold sliceMade slicePicked
      rw [hl, hu, hs]
      show (if ((-1 : Int) == 1 && _) = true then Made.val (.str z t) else _) = _
      rw [if_neg (by simp)]
      show Made.str ⟨((Builtin.Str.strSliceIndices none none (-1) z.length).filterMap (z.cps[·]?)).toArray⟩ = _
      rw [rev_pick]
    rw [e1]
    refine ⟨?_, .str _, H4, I5.tok _, ⟨_, rfl⟩, q⟩
    show z.cps.toList.reverse.toArray.size ≤ sizeLine
    rw [List.size_toArray, List.length_reverse, Array.length_toList]
    exact hz
theorem so_rev {k : Nat} {p1 p2 p3 : Pos} (ha : SoE X TB W a fa) : SoE X TB W (.Subscript a (.Slice none none (some (.UnaryOp .USub (.Constant (.int 1) k p1) p2)) p3) pos) (fun e => (fa e).bind fun pa e1 => lift1 ((res pa e1).bind fun x => (revD x).map .val) e1) := by
  obtain ⟨ta, pa, sa⟩ := ha
  refine ⟨_, pe_revA pa, fun σ H env re => ?_⟩
  show SndAt X.K TB W σ H env (fun Q : VK => ta σ H fun x H1 => (∃ a xs, x = V.ref a ∧ SqL X.K H1 a xs ∧ ∀ p, H1 p = none → Q (V.ref p) (upd H1 p (.lst xs.reverse))) ∨ (∃ z : Str, x = V.str z ∧ z.length ≤ sizeLine ∧ Q (V.str ⟨z.cps.toList.reverse.toArray⟩) H1)) _ _
  refine sa_bind (sa σ H env re) fun x pa H1 env1 e1 r1 => ?_
  refine lift1_sa fun dv hdv => ?_
  simp only [Option.bind_eq_some_iff, Option.map_eq_some_iff] at hdv
  obtain ⟨dx, hx, v, hv, rfl⟩ := hdv
  have rx := res_rd e1 r1 hx
  cases dx <;> simp only [revD, reduceCtorEq] at hv
  · split at hv
    · rename_i hz
      cases hv
      cases rx.str
      exact sa_val fun Q k => .inr ⟨_, rfl, hz, k _ H1 e1 (Fz.str _)⟩
    · cases hv
  · cases hv
    obtain ⟨p, vs, rfl, h1, al⟩ := rx.list
    refine sa_val fun Q k => .inl ⟨p, vs, rfl, h1, fun q n => ?_⟩
    obtain ⟨e4, r4⟩ := e1.grow (grow_lst n (fz_rev al))
    exact k _ _ e4 r4
end
end
end Wd
/-! Wd 6: comparisons, tests, truth. -/
namespace Wd
open PySem PySem.Spec PyProof.Rows L2
section
variable {X : Cx} {TB : TL} {W : WEx}
def CmD (K : PySem.W.Frag) (r : R2) (f : PyData → PyData → Option Bool) : Prop :=
  ∀ (H : Hp) (x y : V) (dx dy : PyData) (b : Bool), RD K H x dx → RD K H y dy → f dx dy = some b → ∀ Q : VK, Q (.bl b) H → r x y H Q
theorem eqd_cases {dx dy : PyData} {b : Bool} (e : eqd dx dy = some b) : (∃ s t, dx = .str s ∧ dy = .str t ∧ decide (s = t) = b) ∨ (eqOk dx dy = true ∧ PyData.eqv dx dy = b) := by
  unfold eqd at e
  split at e
  · exact .inl ⟨_, _, rfl, rfl, Option.some.inj e⟩
  · split at e
    · exact .inr ⟨by assumption, Option.some.inj e⟩
    · cases e
theorem scal_str (s t : Str) : scal (.str s) (.str t) = true := rfl
theorem cd_eq : CmD X.K (fun x y H Q => rEqD X.K x y H Q ∨ rEq x y H Q) (cm2 .eq) := by
  intro H x y dx dy b hx hy e Q q
  rcases eqd_cases e with ⟨s, t, rfl, rfl, h⟩ | ⟨h, h2⟩
  · cases hx.str
    cases hy.str
    refine .inr ⟨scal_str s t, ?_⟩
    have : decide (V.str s = V.str t) = b := by rw [← h]; simp
    rw [this]
    exact q
  · simp only [eqOk, Bool.and_eq_true] at h
    refine .inl ⟨dx, dy, hx.dp, hy.dp, h.1, h.2, ?_⟩
    rw [h2]
    exact q
theorem cd_ne : CmD X.K (fun x y H Q => rNeD X.K x y H Q ∨ rNe x y H Q) (cm2 .ne) := by
  intro H x y dx dy b hx hy e Q q
  have e0 : (eqd dx dy).map (!·) = some b := e
  rw [Option.map_eq_some_iff] at e0
  obtain ⟨c, e1, rfl⟩ := e0
  rcases eqd_cases e1 with ⟨s, t, rfl, rfl, h⟩ | ⟨h, h2⟩
  · cases hx.str
    cases hy.str
    refine .inr ⟨scal_str s t, ?_⟩
    have : decide (V.str s = V.str t) = c := by rw [← h]; simp
    rw [this]
    exact q
  · simp only [eqOk, Bool.and_eq_true] at h
    refine .inl ⟨dx, dy, hx.dp, hy.dp, h.1, h.2, ?_⟩
    rw [h2]
    exact q
theorem cd_lt : CmD X.K (rI0 fun i j => .bl (decide (i < j))) (cm2 .lt) := by
  intro H x y dx dy b hx hy e Q q
  cases dx <;> cases dy <;> simp only [cm2, reduceCtorEq] at e
  cases hx.int
  cases hy.int
  cases e
  exact ⟨_, _, rfl, rfl, q⟩
theorem cd_le : CmD X.K (rI0 fun i j => .bl (decide (i ≤ j))) (cm2 .le) := by
  intro H x y dx dy b hx hy e Q q
  cases dx <;> cases dy <;> simp only [cm2, reduceCtorEq] at e
  cases hx.int
  cases hy.int
  cases e
  exact ⟨_, _, rfl, rfl, q⟩
theorem cd_gt : CmD X.K (rI0 fun i j => .bl (decide (j < i))) (cm2 .gt) := by
  intro H x y dx dy b hx hy e Q q
  cases dx <;> cases dy <;> simp only [cm2, reduceCtorEq] at e
  cases hx.int
  cases hy.int
  cases e
  exact ⟨_, _, rfl, rfl, q⟩
theorem cd_ge : CmD X.K (rI0 fun i j => .bl (decide (j ≤ i))) (cm2 .ge) := by
  intro H x y dx dy b hx hy e Q q
  cases dx <;> cases dy <;> simp only [cm2, reduceCtorEq] at e
  cases hx.int
  cases hy.int
  cases e
  exact ⟨_, _, rfl, rfl, q⟩
/-- x in a tuple -/
def rInT (K : PySem.W.Frag) (k : Bool) : R2 := fun x y H Q => ∃ d ds, Dp K H x d ∧ Dp K H y (.tuple ds) ∧ SeqAt.shaped d = true ∧ SeqAt.shaped (.tuple ds) = true ∧ Q (.bl (k ^^ ds.any fun z => PyData.eqv z d)) H
theorem op_inT (hu : X.A.units + 65 < cLine) : OpR X (compareOp .In) (rInT X.K false) := by
  intro pins s σ H x y v u Q I rx ry h
  obtain ⟨d, ds, hd, he, sd, se, q⟩ := h
  obtain ⟨as, r1⟩ := Dp.reads I d x v hd rx
  obtain ⟨bs, r2⟩ := Dp.reads I (.tuple ds) y u he ry
  rw [Bool.false_xor] at q
  exact SeqAt.in_tuple_reads r2 r1 (SeqAt.canLay_of_shaped se) (SeqAt.canLay_of_shaped sd) (room_in_shaped sd hu) ⟨.bl _, H, I, rfl, q⟩
theorem op_notInT (hu : X.A.units + 65 < cLine) : OpR X (compareOp .NotIn) (rInT X.K true) := by
  intro pins s σ H x y v u Q I rx ry h
  obtain ⟨d, ds, hd, he, sd, se, q⟩ := h
  obtain ⟨as, r1⟩ := Dp.reads I d x v hd rx
  obtain ⟨bs, r2⟩ := Dp.reads I (.tuple ds) y u he ry
  rw [Bool.true_xor] at q
  exact SeqAt.notIn_tuple_reads r2 r1 (SeqAt.canLay_of_shaped se) (SeqAt.canLay_of_shaped sd) (room_in_shaped sd hu) ⟨.bl _, H, I, rfl, q⟩
theorem cd_in : CmD X.K (fun x y H Q => rInD X.K x y H Q ∨ rInT X.K false x y H Q) (cm2 .isin) := by
  intro H x y dx dy b hx hy e Q q
  cases dy <;> simp only [cm2, reduceCtorEq] at e
  all_goals
    split at e
    · rename_i h
      simp only [Bool.and_eq_true] at h
      cases e
      first
        | exact .inl ⟨dx, _, hx.dp, hy.dp, h.1, h.2, q⟩
        | exact .inr ⟨dx, _, hx.dp, hy.dp, h.1, h.2, by rw [Bool.false_xor]; exact q⟩
    · cases e
theorem cd_notin : CmD X.K (fun x y H Q => rNotInD X.K x y H Q ∨ rInT X.K true x y H Q) (cm2 .notin) := by
  intro H x y dx dy b hx hy e Q q
  cases dy <;> simp only [cm2, reduceCtorEq] at e
  all_goals
    split at e
    · rename_i h
      simp only [Bool.and_eq_true] at h
      cases e
      first
        | exact .inl ⟨dx, _, hx.dp, hy.dp, h.1, h.2, q⟩
        | exact .inr ⟨dx, _, hx.dp, hy.dp, h.1, h.2, by rw [Bool.true_xor]; exact q⟩
    · cases e
/-- the operator's rule, and what it tells -/
def cmOp : Cm → CmpOp
  | .lt => .Lt
  | .le => .LtE
  | .gt => .Gt
  | .ge => .GtE
  | .eq => .Eq
  | .ne => .NotEq
  | .isin => .In
  | .notin => .NotIn
theorem cm_rule (hu : X.A.units + 65 < cLine) : ∀ o : Cm, ∃ r, OpR X (compareOp (cmOp o)) r ∧ CmD X.K r (cm2 o)
  | .lt => ⟨_, op_lt, cd_lt⟩
  | .le => ⟨_, op_le, cd_le⟩
  | .gt => ⟨_, op_gt, cd_gt⟩
  | .ge => ⟨_, op_ge, cd_ge⟩
  | .eq => ⟨_, OpR.or (op_eqD (by omega)) op_eq, cd_eq⟩
  | .ne => ⟨_, OpR.or (op_neD (by omega)) op_ne, cd_ne⟩
  | .isin => ⟨_, OpR.or (op_inD hu) (op_inT hu), cd_in⟩
  | .notin => ⟨_, OpR.or (op_notInD hu) (op_notInT hu), cd_notin⟩
section
variable {a b c : Expr} {fa fb fc : DEnv → R PV} {pos : Pos} {o p : Cm}
theorem so_cmp (hu : X.A.units + 65 < cLine) (hm : behindInMarks (cmOp o) b = false) (ha : SoE X TB W a fa) (hb : SoE X TB W b fb) :
    SoE X TB W (.Compare a [cmOp o] [b] pos) (fun e => (fa e).bind fun pa e1 => (fb e1).bind fun pb e2 => (lift1 ((res pa e2).bind fun x => (res pb e2).bind fun y => cm2 o x y) e2).bind fun k e3 => .ok (.val (.d (.bool k))) e3) := by
  obtain ⟨ta, pa, sa⟩ := ha
  obtain ⟨tb, pb, sb⟩ := hb
  obtain ⟨r, hr, cd⟩ := cm_rule hu o
  refine ⟨_, pe_cmpR hr pa pb hm, fun σ H env re => ?_⟩
  show SndAt X.K TB W σ H env (fun Q => ta σ H fun x H1 => tb σ H1 fun y H2 => r x y H2 Q) _ _
  refine sa_bind (sa σ H env re) fun x pa H1 env1 e1 r1 => ?_
  refine sa_bind (sb.at e1) fun y pb H2 env2 e2 ⟨e12, r2⟩ => ?_
  cases q : (res pa env2).bind fun x => (res pb env2).bind fun y => cm2 o x y with
  | none => exact sa_bad
  | some k =>
    simp only [Option.bind_eq_some_iff] at q
    obtain ⟨dx, hx, dy, hy, hk⟩ := q
    exact sa_val fun Q kk => cd H2 x y dx dy k (res_rd e2 (r1.later e1 e12) hx) (res_rd e2 (r2.whole e1) hy) hk Q (kk _ H2 e2 (Fz.bl k))
theorem so_cmpT (hu : X.A.units + 65 < cLine) (hm : behindInMarks (cmOp o) b = false) (ha : SoE X TB W a fa) (hb : SoE X TB W b fb) :
    SoT X TB W (.Compare a [cmOp o] [b] pos) (fun e => (fa e).bind fun pa e1 => (fb e1).bind fun pb e2 => lift1 ((res pa e2).bind fun x => (res pb e2).bind fun y => cm2 o x y) e2) := by
  obtain ⟨ta, pa, sa⟩ := ha
  obtain ⟨tb, pb, sb⟩ := hb
  obtain ⟨r, hr, cd⟩ := cm_rule hu o
  refine ⟨_, pt_cmpR hr pa pb hm, fun σ H env re => ?_⟩
  show SndAt X.K TB W σ H env (fun Q => ta σ H fun x H1 => tb σ H1 fun y H2 => r x y H2 fun z H3 => ∃ k, z = V.bl k ∧ Q k H3) _ _
  refine sa_bind (sa σ H env re) fun x pa H1 env1 e1 r1 => ?_
  refine sa_bind (sb.at e1) fun y pb H2 env2 e2 ⟨e12, r2⟩ => ?_
  refine lift1_sa fun k hk => ?_
  simp only [Option.bind_eq_some_iff] at hk
  obtain ⟨dx, hx, dy, hy, hk⟩ := hk
  exact sa_val fun Q kk => cd H2 x y dx dy k (res_rd e2 (r1.later e1 e12) hx) (res_rd e2 (r2.whole e1) hy) hk _ ⟨k, rfl, kk _ H2 e2 rfl⟩
theorem so_chain (hu : X.A.units + 65 < cLine) (hm : lastMarks [cmOp o, cmOp p] [b, c] = false) (ha : SoE X TB W a fa) (hb : SoE X TB W b fb) (hc : SoE X TB W c fc) :
    SoE X TB W (.Compare a [cmOp o, cmOp p] [b, c] pos) (fun e => (fa e).bind fun pa e1 => (fb e1).bind fun pb e2 => (lift1 ((res pa e2).bind fun x => (res pb e2).bind fun y => cm2 o x y) e2).bind fun k e2 => if k then (fc e2).bind fun pc e3 => (lift1 ((res pb e3).bind fun y => (res pc e3).bind fun z => cm2 p y z) e3).bind fun k e4 => .ok (.val (.d (.bool k))) e4 else .ok (.val (.d (.bool false))) e2) := by
  obtain ⟨ta, pa, sa⟩ := ha
  obtain ⟨tb, pb, sb⟩ := hb
  obtain ⟨tc, pc, sc⟩ := hc
  obtain ⟨r, hr, cd⟩ := cm_rule hu o
  obtain ⟨r', hr', cd'⟩ := cm_rule hu p
  refine ⟨_, pe_chain hr hr' pa pb pc hm, fun σ H env re => ?_⟩
  show SndAt X.K TB W σ H env (fun Q => ta σ H fun x H1 => tb σ H1 fun y H2 => r x y H2 fun z H3 => ∃ k, z = V.bl k ∧ (if k = true then tc σ H3 fun w' H4 => r' y w' H4 Q else Q (V.bl false) H3)) _ _
  refine sa_bind (sa σ H env re) fun x pa H1 env1 e1 r1 => ?_
  refine sa_bind (sb.at e1) fun y pb H2 env2 e2 ⟨e12, r2⟩ => ?_
  cases q : (res pa env2).bind fun x => (res pb env2).bind fun y => cm2 o x y with
  | none => exact sa_bad
  | some k =>
    simp only [Option.bind_eq_some_iff] at q
    obtain ⟨dx, hx, dy, hy, hk⟩ := q
    have go : SndAt X.K TB W σ H env (fun Q => if k = true then tc σ H2 fun w' H4 => r' y w' H4 Q else Q (V.bl false) H2) (if k then (fc env2).bind fun pc e3 => (lift1 ((res pb e3).bind fun y => (res pc e3).bind fun z => cm2 p y z) e3).bind fun k e4 => .ok (.val (.d (.bool k))) e4 else .ok (.val (.d (.bool false))) env2) (fun H' env' v pv => PR X.K H H' σ env' v pv) := by
      cases k with
      | false => exact sa_val fun Q kk => by rw [if_neg Bool.false_ne_true]; exact kk _ H2 e2 (Fz.bl false)
      | true =>
        simp only [if_true]
        refine sa_bind (sc.at e2) fun z pc H3 env3 e3 ⟨e23, r3⟩ => ?_
        cases q : (res pb env3).bind fun y => (res pc env3).bind fun z => cm2 p y z with
        | none => exact sa_bad
        | some k2 =>
          simp only [Option.bind_eq_some_iff] at q
          obtain ⟨dy', hy', dz, hz, hk2⟩ := q
          exact sa_val fun Q kk => cd' H3 y z dy' dz k2 (res_rd e3 ((r2.whole e1).later e2 e23) hy') (res_rd e3 (r3.whole e2) hz) hk2 Q (kk _ H3 e3 (Fz.bl k2))
    refine ⟨fun a' env' hq Q kk => cd H2 x y dx dy k (res_rd e2 (r1.later e1 e12) hx) (res_rd e2 (r2.whole e1) hy) hk _ ⟨k, rfl, go.1 a' env' hq Q kk⟩, fun k' hq hw Q => cd H2 x y dx dy k (res_rd e2 (r1.later e1 e12) hx) (res_rd e2 (r2.whole e1) hy) hk _ ⟨k, rfl, go.2 k' hq hw Q⟩⟩
theorem so_chainT (hu : X.A.units + 65 < cLine) (hm : lastMarks [cmOp o, cmOp p] [b, c] = false) (ha : SoE X TB W a fa) (hb : SoE X TB W b fb) (hc : SoE X TB W c fc) :
    SoT X TB W (.Compare a [cmOp o, cmOp p] [b, c] pos) (fun e => (fa e).bind fun pa e1 => (fb e1).bind fun pb e2 => (lift1 ((res pa e2).bind fun x => (res pb e2).bind fun y => cm2 o x y) e2).bind fun k e2 => if k then (fc e2).bind fun pc e3 => lift1 ((res pb e3).bind fun y => (res pc e3).bind fun z => cm2 p y z) e3 else .ok false e2) := by
  obtain ⟨ta, pa, sa⟩ := ha
  obtain ⟨tb, pb, sb⟩ := hb
  obtain ⟨tc, pc, sc⟩ := hc
  obtain ⟨r, hr, cd⟩ := cm_rule hu o
  obtain ⟨r', hr', cd'⟩ := cm_rule hu p
  refine ⟨_, pt_chain hr hr' pa pb pc hm, fun σ H env re => ?_⟩
  show SndAt X.K TB W σ H env (fun Q => ta σ H fun x H1 => tb σ H1 fun y H2 => r x y H2 fun z H3 => ∃ k, z = V.bl k ∧ (if k = true then tc σ H3 fun w' H4 => r' y w' H4 fun z' H5 => ∃ k', z' = V.bl k' ∧ Q k' H5 else ∃ k', V.bl false = V.bl k' ∧ Q k' H3)) _ _
  refine sa_bind (sa σ H env re) fun x pa H1 env1 e1 r1 => ?_
  refine sa_bind (sb.at e1) fun y pb H2 env2 e2 ⟨e12, r2⟩ => ?_
  cases q : (res pa env2).bind fun x => (res pb env2).bind fun y => cm2 o x y with
  | none => exact sa_bad
  | some k =>
    simp only [Option.bind_eq_some_iff] at q
    obtain ⟨dx, hx, dy, hy, hk⟩ := q
    have go : SndAt X.K TB W σ H env (fun Q : Bool → Hp → Prop => if k = true then tc σ H2 fun w' H4 => r' y w' H4 fun z' H5 => ∃ k', z' = V.bl k' ∧ Q k' H5 else ∃ k', V.bl false = V.bl k' ∧ Q k' H2) (if k then (fc env2).bind fun pc e3 => lift1 ((res pb e3).bind fun y => (res pc e3).bind fun z => cm2 p y z) e3 else .ok false env2) (fun H' env' b a => b = a) := by
      cases k with
      | false => exact sa_val fun Q kk => by rw [if_neg Bool.false_ne_true]; exact ⟨false, rfl, kk _ H2 e2 rfl⟩
      | true =>
        simp only [if_true]
        refine sa_bind (sc.at e2) fun z pc H3 env3 e3 ⟨e23, r3⟩ => ?_
        refine lift1_sa fun k2 hk2 => ?_
        simp only [Option.bind_eq_some_iff] at hk2
        obtain ⟨dy', hy', dz, hz, hk2⟩ := hk2
        exact sa_val fun Q kk => cd' H3 y z dy' dz k2 (res_rd e3 ((r2.whole e1).later e2 e23) hy') (res_rd e3 (r3.whole e2) hz) hk2 _ ⟨k2, rfl, kk _ H3 e3 rfl⟩
    refine ⟨fun a' env' hq Q kk => cd H2 x y dx dy k (res_rd e2 (r1.later e1 e12) hx) (res_rd e2 (r2.whole e1) hy) hk _ ⟨k, rfl, go.1 a' env' hq Q kk⟩, fun k' hq hw Q => cd H2 x y dx dy k (res_rd e2 (r1.later e1 e12) hx) (res_rd e2 (r2.whole e1) hy) hk _ ⟨k, rfl, go.2 k' hq hw Q⟩⟩
theorem tru_of {H : Hp} {x : V} {d : PyData} {k : Bool} (h : RD X.K H x d) (e : truth d = some k) : TruV X.K x H k := by
  cases d <;> simp only [truth, reduceCtorEq] at e
  · cases h.none
    cases e
    rfl
  · cases h.bool
    cases e
    rfl
  · cases h.int
    cases e
    rfl
  · cases h.str
    split at e
    · cases e
      exact ⟨by assumption, rfl⟩
    · cases e
  · obtain ⟨p, vs, rfl, h1, al⟩ := h.list
    cases e
    refine .inl ⟨vs, h1, ?_⟩
    cases al <;> rfl
  · obtain ⟨p, vs, rfl, h1, al⟩ := h.tuple
    cases e
    refine .inr (.inl ⟨vs, h1, ?_⟩)
    cases al <;> rfl
theorem so_tru (hi : ∀ whole, isTrue a X.env whole = (do let v ← whole; standAt a.pos; holding [v] (truthy v))) (ha : SoE X TB W a fa) : SoT X TB W a (fun e => (fa e).bind fun p e1 => lift1 ((res p e1).bind truth) e1) := by
  obtain ⟨ta, pa, sa⟩ := ha
  refine ⟨_, pt_truth pa hi, fun σ H env re => ?_⟩
  refine sa_bind (sa σ H env re) fun x p H1 env1 e1 r1 => ?_
  refine lift1_sa fun k hk => ?_
  simp only [Option.bind_eq_some_iff] at hk
  obtain ⟨d, hd, hk⟩ := hk
  exact sa_val fun Q kk => ⟨k, tru_of (res_rd e1 r1 hd) hk, kk k H1 e1 rfl⟩
theorem so_nottV (ha : SoE X TB W a fa) : SoE X TB W (.UnaryOp .Not a pos) (fun e => (fa e).bind fun pa e1 => match res pa e1 with
    | some (.bool c) => .ok (.val (.d (.bool (!c)))) e1
    | _ => .bad) := by
  obtain ⟨ta, pa, sa⟩ := ha
  refine ⟨_, pe_not pa, fun σ H env re => ?_⟩
  show SndAt X.K TB W σ H env (fun Q => ta σ H fun x H1 => ∃ c, x = V.bl c ∧ Q (V.bl (!c)) H1) _ _
  refine sa_bind (sa σ H env re) fun x p H1 env1 e1 r1 => ?_
  split
  · rename_i c hc
    cases (res_rd e1 r1 hc).bool
    exact sa_val fun Q k => ⟨c, rfl, k _ H1 e1 (Fz.bl _)⟩
  · exact sa_bad
end
/-! tests in a row -/
def SoW (X : Cx) (TB : TL) (W : WEx) (e : Expr) (f : DEnv → R Bool) : Prop := ∃ t, PW X e t ∧ Snd X.K TB W t f (fun _ _ _ _ b a => b = a)
section
variable {a b : Expr} {es : List Expr} {fa fb : DEnv → R Bool} {ga gb : DEnv → R PV} {pos : Pos}
theorem SoW.pt {e : Expr} (h : SoW X TB W e fa) : SoT X TB W e fa := let ⟨t, p, s⟩ := h; ⟨t, p.pt, s⟩
theorem so_and1 (ha : SoT X TB W a fa) : SoW X TB W (.BoolOp .And [a] pos) (fun e => (fa e).bind fun b e1 => if b then .ok true e1 else .ok false e1) := by
  obtain ⟨ta, pa, sa⟩ := ha
  refine ⟨_, pw_and1 pa, fun σ H env re => ?_⟩
  refine sa_bind (pu := fun x H1 Q => Q x H1) (sa σ H env re) fun x t H1 env1 e1 r1 => ?_
  cases r1
  cases x <;> exact sa_ok e1 rfl
theorem so_or1 (ha : SoT X TB W a fa) : SoW X TB W (.BoolOp .Or [a] pos) (fun e => (fa e).bind fun b e1 => if b then .ok true e1 else .ok false e1) := by
  obtain ⟨ta, pa, sa⟩ := ha
  refine ⟨_, pw_or1 pa, fun σ H env re => ?_⟩
  refine sa_bind (pu := fun x H1 Q => Q x H1) (sa σ H env re) fun x t H1 env1 e1 r1 => ?_
  cases r1
  cases x <;> exact sa_ok e1 rfl
theorem so_and (ha : SoT X TB W a fa) (hb : SoW X TB W (.BoolOp .And (b :: es) pos) fb) : SoW X TB W (.BoolOp .And (a :: b :: es) pos) (fun e => (fa e).bind fun b e1 => if b then fb e1 else .ok false e1) := by
  obtain ⟨ta, pa, sa⟩ := ha
  obtain ⟨tb, pb, sb⟩ := hb
  refine ⟨_, pw_and pa pb, fun σ H env re => ?_⟩
  show SndAt X.K TB W σ H env (fun Q => ta σ H fun c H1 => if c = true then tb σ H1 Q else Q false H1) _ _
  refine sa_bind (sa σ H env re) fun x t H1 env1 e1 r1 => ?_
  cases r1
  cases x with
  | true => exact sa_mono (sb.at e1) fun H' env' y pv e2 ⟨e12, r2⟩ => r2
  | false => exact sa_ok e1 rfl
theorem so_or (ha : SoT X TB W a fa) (hb : SoW X TB W (.BoolOp .Or (b :: es) pos) fb) : SoW X TB W (.BoolOp .Or (a :: b :: es) pos) (fun e => (fa e).bind fun b e1 => if b then .ok true e1 else fb e1) := by
  obtain ⟨ta, pa, sa⟩ := ha
  obtain ⟨tb, pb, sb⟩ := hb
  refine ⟨_, pw_or pa pb, fun σ H env re => ?_⟩
  show SndAt X.K TB W σ H env (fun Q => ta σ H fun c H1 => if c = true then Q true H1 else tb σ H1 Q) _ _
  refine sa_bind (sa σ H env re) fun x t H1 env1 e1 r1 => ?_
  cases r1
  cases x with
  | false => exact sa_mono (sb.at e1) fun H' env' y pv e2 ⟨e12, r2⟩ => r2
  | true => exact sa_ok e1 rfl
theorem so_not (ha : SoT X TB W a fa) : SoT X TB W (.UnaryOp .Not a pos) (fun e => (fa e).bind fun b e1 => .ok (!b) e1) := by
  obtain ⟨ta, pa, sa⟩ := ha
  refine ⟨_, pt_not pa, fun σ H env re => ?_⟩
  show SndAt X.K TB W σ H env (fun Q => ta σ H fun c H1 => Q (!c) H1) _ _
  refine sa_bind (sa σ H env re) fun x t H1 env1 e1 r1 => ?_
  cases r1
  exact sa_ok e1 rfl
/-! as values -/
theorem so_one {op} (ha : SoE X TB W a ga) : SoE X TB W (.BoolOp op [a] pos) ga := let ⟨t, p, s⟩ := ha; ⟨t, pe_one p, s⟩
theorem so_andV (ha : SoE X TB W a ga) (hb : SoE X TB W (.BoolOp .And (b :: es) pos) gb) : SoE X TB W (.BoolOp .And (a :: b :: es) pos) (fun e => (ga e).bind fun p e1 => match res p e1 with
      | some (.bool c) => if c then gb e1 else .ok (.val (.d (.bool false))) e1
      | _ => .bad) := by
  obtain ⟨ta, pa, sa⟩ := ha
  obtain ⟨tb, pb, sb⟩ := hb
  refine ⟨_, pe_and pa pb, fun σ H env re => ?_⟩
  show SndAt X.K TB W σ H env (fun Q => ta σ H fun x H1 => ∃ c, x = V.bl c ∧ if c = true then tb σ H1 Q else Q (V.bl false) H1) _ _
  refine sa_bind (sa σ H env re) fun x p H1 env1 e1 r1 => ?_
  split
  · rename_i c hc
    cases (res_rd e1 r1 hc).bool
    cases c with
    | true =>
      have z := sa_mono (sb.at e1) (Rl' := fun H' env' v pv => PR X.K H H' σ env' v pv) fun H' env' y pv e2 ⟨e12, r2⟩ => r2.whole e1
      exact ⟨fun a' env' hq Q k => ⟨true, rfl, by rw [if_pos rfl]; exact z.1 a' env' hq Q k⟩, fun k hq hw Q => ⟨true, rfl, by rw [if_pos rfl]; exact z.2 k hq hw Q⟩⟩
    | false => exact sa_val fun Q k => ⟨false, rfl, by rw [if_neg Bool.false_ne_true]; exact k _ H1 e1 (Fz.bl false)⟩
  · exact sa_bad
theorem so_orV (ha : SoE X TB W a ga) (hb : SoE X TB W (.BoolOp .Or (b :: es) pos) gb) : SoE X TB W (.BoolOp .Or (a :: b :: es) pos) (fun e => (ga e).bind fun p e1 => match res p e1 with
      | some (.bool c) => if c then .ok (.val (.d (.bool true))) e1 else gb e1
      | _ => .bad) := by
  obtain ⟨ta, pa, sa⟩ := ha
  obtain ⟨tb, pb, sb⟩ := hb
  refine ⟨_, pe_or pa pb, fun σ H env re => ?_⟩
  show SndAt X.K TB W σ H env (fun Q => ta σ H fun x H1 => ∃ c, x = V.bl c ∧ if c = true then Q (V.bl true) H1 else tb σ H1 Q) _ _
  refine sa_bind (sa σ H env re) fun x p H1 env1 e1 r1 => ?_
  split
  · rename_i c hc
    cases (res_rd e1 r1 hc).bool
    cases c with
    | false =>
      have z := sa_mono (sb.at e1) (Rl' := fun H' env' v pv => PR X.K H H' σ env' v pv) fun H' env' y pv e2 ⟨e12, r2⟩ => r2.whole e1
      exact ⟨fun a' env' hq Q k => ⟨false, rfl, by rw [if_neg Bool.false_ne_true]; exact z.1 a' env' hq Q k⟩, fun k hq hw Q => ⟨false, rfl, by rw [if_neg Bool.false_ne_true]; exact z.2 k hq hw Q⟩⟩
    | true => exact sa_val fun Q k => ⟨true, rfl, by rw [if_pos rfl]; exact k _ H1 e1 (Fz.bl true)⟩
  · exact sa_bad
end
end
end Wd
/-! Wd 7: calls of defs and of built-ins. -/
namespace Wd
open PySem PySem.Spec PyProof.Rows L2
theorem takesN {X : Cx} : L2N.Takes X (fun _ _ _ _ => False) := by
  intro u s x
  obtain ⟨_, _, _, _, _, _, _, _, _, _, _, _, _, _, _, _, z⟩ := x
  exact z.elim
/-- a def's promise, told where no text of a list is under way -/
structure FnG (P : Program) (w : World) (K : PySem.W.Frag) (mg : Str → Option Value) (base : Heap) (k : Nat) (f : Addr) (fd : FuncData) (ps : List Str) (sp : Sp) : Prop where
  len : ∀ vs H Q E, sp vs H Q E → vs.length = ps.length
  run : ∀ (A : Around) (outer : List Env) (s : Shared) (H : Hp) (args : Args) (us : List Value) (vs : List V) (Q : VK) (E : XK), Room k A → A.guards = some [] → Env0 P w K mg base A outer s H → BindsTo s fd args (ps.zip us) → Vals vs us → sp vs H Q E →
    codeAny (model P w) A (.call (.ref f) args) (CR (L2N.CX P w) outer P w H s Q E) s
theorem FnG.mono {P : Program} {w : World} {K : PySem.W.Frag} {mg : Str → Option Value} {base : Heap} {j k : Nat} {f : Addr} {fd : FuncData} {ps : List Str} {sp : Sp} (F : FnG P w K mg base j f fd ps sp) (h : j ≤ k) : FnG P w K mg base k f fd ps sp :=
  ⟨F.len, fun A outer s H args us vs Q E hr => F.run A outer s H args us vs Q E (hr.mono h)⟩
/-- a def of the text, its body walked -/
theorem fng_of {P : Program} {w : World} {K : PySem.W.Frag} {mg : Str → Option Value} {base : Heap} {x qual : Str} {st : Stmt} {f : Addr} {fd : FuncData} {N ps : List Str} {k : Nat} {sp : Sp} (F : Fun K x qual st f fd) (S : FnScope N ps (defScope st)) (len : ∀ vs H Q E, sp vs H Q E → vs.length = ps.length)
    (hbody : ∀ (cdv : Value), fd.code = cdv → ∀ (A : Around) (outer : List Env) (s : Shared) (H : Hp) (vs : List V) (Q : VK) (E : XK), Room k (A.deeper (envOfC qual (defScope st) s.heap.objs.size f cdv)) → A.guards = some [] → sp vs H Q E →
      ∃ t, PSs (cxOf (L2N.CX P w) P w K mg base N qual (defScope st) f cdv A outer s H E) (defBody st) t ∧ t { nx := fun _ H' => Q .non H', rt := Q } (start N vs) H) : FnG P w K mg base (k + 1) f fd ps sp := by
  obtain ⟨oc, od, kV, doc, pm, an, cdv, ct, osl, rfl, lk, hcd⟩ := F.ex
  exact ⟨len, fun A outer s H args us vs Q E hr hg e0 hb r hsp => LamX.run_ofS lk hcd S hr e0 hb r (len _ _ _ _ hsp) fun hr' => hbody cdv rfl A outer s H vs Q E hr' hg hsp⟩
inductive RVs (K : PySem.W.Frag) (H : Hp) : List V → List DV → Prop
  | nil : RVs K H [] []
  | cons {v : V} {vs : List V} {d : DV} {ds : List DV} : RV K H v d → RVs K H vs ds → RVs K H (v :: vs) (d :: ds)
theorem RVs.length {K : PySem.W.Frag} {H : Hp} : ∀ {vs : List V} {ds : List DV}, RVs K H vs ds → vs.length = ds.length
  | _, _, .nil => rfl
  | _, _, .cons _ r => congrArg (· + 1) (RVs.length r)
theorem RVs.of {K : PySem.W.Frag} {H : Hp} : ∀ {vs : List V} {ds : List PyData}, FzAll K H vs ds → RVs K H vs (ds.map .d)
  | _, _, .nil => .nil
  | _, _, .cons h r => .cons h (RVs.of r)
/-- a fresh or never changing value -/
def RN (K : PySem.W.Frag) (H H' : Hp) (x : V) : DV → Prop
  | .d y => Fz K H' x y
  | .own ys => ∃ a ws, x = .ref a ∧ H' a = some (.lst ws) ∧ FzAll K H' ws ys ∧ H a = none
theorem RN.pr {K : PySem.W.Frag} {H H' : Hp} {σ : L2.St} {env : DEnv} {x : V} {v : DV} (h : RN K H H' x v) : PR K H H' σ env x (.val v) := by
  cases v with
  | d y => exact h
  | own ys => exact h
/-- what the interpreter promises of a def: r its answers -/
def spF (K : PySem.W.Frag) (TB : TL) (cr : Nat → Addr) (n : Nat) (r : List DV → CA) : Sp := fun vs H Q E => vs.length = n ∧ ∃ dvs, RVs K H vs dvs ∧ LamX.Tabs TB H ∧ match r dvs with
  | .ok v none => ∀ x H', Ext (fun _ => False) H H' → (∀ b, H' b = none → H b = none) → LamX.Tabs TB H' → RN K H H' x v → Q x H'
  | .ok v (some zs) => ∃ a ys, vs.head? = some (V.ref a) ∧ dvs.head? = some (DV.own ys) ∧ ∀ x H' ws, Ext (fun b => b = a) H H' → (∀ b, H' b = none → H b = none) → LamX.Tabs TB H' → H' a = some (.lst ws) → FzAll K H' ws zs → RN K H H' x v → Q x H'
  | .exc k => ∀ H', Ext (fun _ => False) H H' → (∀ b, H' b = none → H b = none) → LamX.Tabs TB H' → E (.ref (cr k)) none H'
  | .bad => False
section
variable {X : Cx} {TB : TL} {W : WEx} {cr : Nat → Addr}
/-- what this body wants of exceptions -/
abbrev WW (cr : Nat → Addr) (W : WEx) : WX := fun cls d _ H => ∃ k, cls = .ref (cr k) ∧ W k d H
abbrev WK (cr : Nat → Addr) (W : WEx) : XK := fun cls d H => ∃ k, cls = .ref (cr k) ∧ W k d H
section
variable {k : Nat} {f : Addr} {fd : FuncData} {ps : List Str} {sp : Sp} {x : Str} {p pos : Pos} {e : Expr} {es : List Expr} {t : TA}
theorem run_fng {pins : List (Addr × Obj)} {σ : L2.St} {H : Hp} {s : Shared} {Q : VK} {us : List Value} {vs : List V} (F : FnG X.prog X.w X.K X.mg X.base k f fd ps sp) (hr : Room k X.A) (gd : X.A.guards = some []) (hb : Binds X.K fd ps []) (tk : L2N.Takes X (WW cr W))
    (I : L2.Inv X pins σ H s) (r : Vals vs us) (h : sp vs H Q (WK cr W)) : wpAny (model X.prog X.w) X.A (call (.ref f) us) (EP X pins σ Q) X.xe s := by
  have hl : us.length = ps.length := by rw [← r.length]; exact F.len _ _ _ _ h
  have b := hb s us I.kIn (by rw [List.append_nil]; exact hl)
  rw [List.append_nil] at b
  refine wpAny_call (codeAny_mono (F.run X.A X.stack s H ⟨us, []⟩ us vs Q _ hr gd I.env0 b r h) fun r' s' hq => ?_)
  match r', hq with
  | .error e, hq => exact L2N.passes_call tk (E := WK cr W) (fun cls d σ H h => h) pins σ H s e s' I hq
  | .ok (.ret u), hq => exact I.after hq
  | .ok .next, hq => exact hq.elim
  | .ok .brk, hq => exact hq.elim
  | .ok .cont, hq => exact hq.elim
theorem pe_callG (F : FnG X.prog X.w X.K X.mg X.base k f fd ps sp) (hr : Room k X.A) (gd : X.A.guards = some []) (hb : Binds X.K fd ps []) (tk : L2N.Takes X (WW cr W)) (hg : Gl X x) (hm : X.mg x = some (.ref f)) (hk : PySem.W.keepIn X.K (.ref f) = true)
    (ha : PA X (e :: es) t) (hdb : (x == ("__debug__" : Str)) = false) (he : starEach (e :: es) X.env = (false, eval e X.env) :: starEach es X.env) (hpl : (backTo pos (starEach es X.env)).any (·.1) = false) :
    PE X (.Call (.Name x p) (e :: es) [] pos) (fun σ H Q => t σ H fun vs H1 => sp vs H1 Q (WK cr W)) :=
  ⟨fun pins s σ H Q I h => wpAny_Call_Name_kw (ld_glob I hg hm (PySem.W.callWith_K (h₀ := X.base) I.ok.mod.kin hk (thn (ha.run pos pins s σ H _ I h) fun us s1 ⟨vs, H1, I1, r, q⟩ => ⟨I1.kIn, run_fng F hr gd hb tk I1 r q⟩) he hpl) hdb)⟩
theorem pe_callG0 (F : FnG X.prog X.w X.K X.mg X.base k f fd ps sp) (hr : Room k X.A) (gd : X.A.guards = some []) (hb : Binds X.K fd ps []) (tk : L2N.Takes X (WW cr W)) (hg : Gl X x) (hm : X.mg x = some (.ref f)) (hk : PySem.W.keepIn X.K (.ref f) = true)
    (hdb : (x == ("__debug__" : Str)) = false) : PE X (.Call (.Name x p) [] [] pos) (fun σ H Q => sp [] H Q (WK cr W)) :=
  ⟨fun pins s σ H Q I h => wpAny_Call_Name_kw (ld_glob I hg hm (PySem.W.callWith_K0 I.kIn hk (run_fng (us := []) F hr gd hb tk I .nil h)) hdb)⟩
end
/-- from before a call to behind it -/
theorem EP1.call {K : PySem.W.Frag} {σ : L2.St} {H0 H1 H2 : Hp} {env0 env1 : DEnv} (e : EP1 K TB σ H0 env0 H1 env1) (x : Ext (fun _ => False) H1 H2) (g : ∀ b, H2 b = none → H1 b = none) (t : LamX.Tabs TB H2) : EP1 K TB σ H0 env0 H2 env1 ∧ EP1 K TB σ H1 env1 H2 env1 := by
  have st : Stay H1 H2 := x.stay fun b z => z.elim
  have e2 : EP1 K TB σ H1 env1 H2 env1 := ⟨x.mono fun _ z => z.elim, ⟨e.rep.len, fun i v q => by
    obtain ⟨y, hy, rv⟩ := e.rep.at_ i v q
    refine ⟨y, hy, ?_⟩
    cases v with
    | d z => exact Fz.stay st rv
    | own zs =>
      obtain ⟨a, vs, rfl, h1, al⟩ := rv
      exact ⟨a, vs, rfl, x a _ h1 id fun _ z => (by cases z), FzAll.stay st al⟩, e.rep.inj, t⟩, fun _ z => z, fun i w h => ⟨w, h⟩, g, e.rep.own_lst⟩
  exact ⟨e.trans e2, e2⟩
/-- a name's own list gets another content -/
theorem EP1.putN {K : PySem.W.Frag} {σ : L2.St} {H0 H1 H2 : Hp} {env0 env1 : DEnv} {i : Nat} {a : Addr} {ys zs : List PyData} {ws : List V} (e : EP1 K TB σ H0 env0 H1 env1) (hi : env1[i]? = some (some (DV.own ys))) (hs : σ[i]? = some (some (V.ref a)))
    (x : Ext (fun b => b = a) H1 H2) (g : ∀ b, H2 b = none → H1 b = none) (t : LamX.Tabs TB H2) (ha : H2 a = some (.lst ws)) (al : FzAll K H2 ws zs) : EP1 K TB σ H0 env0 H2 (env1.set i (some (DV.own zs))) ∧ Stay H1 H2 := by
  have ow : OwnA env1 σ a := ⟨i, ys, hi, hs⟩
  have st : Stay H1 H2 := x.stay fun b z => by rw [z]; exact e.rep.own_lst a ow
  have own' : ∀ (j : Nat) (vs : List PyData), (env1.set i (some (DV.own zs)))[j]? = some (some (DV.own vs)) → ∃ vs', env1[j]? = some (some (DV.own vs')) := fun j vs q => by
    by_cases hj : j = i
    · exact ⟨ys, by rw [hj]; exact hi⟩
    · rw [get_set_ne hj] at q
      exact ⟨vs, q⟩
  have e2 : EP1 K TB σ H1 env1 H2 (env1.set i (some (DV.own zs))) := by
    refine ⟨x.mono fun b z => by rw [z]; exact ow, ⟨by rw [List.length_set]; exact e.rep.len, fun j v q => ?_, fun j k xs ys' b q1 q2 s1 s2 => ?_, t⟩, fun b ⟨j, vs, q1, q2⟩ => ?_, fun j w h => ?_, g, e.rep.own_lst⟩
    · by_cases hj : j = i
      · subst hj
        rw [get_set_self hi] at q
        cases q
        exact ⟨_, hs, a, ws, rfl, ha, al⟩
      · rw [get_set_ne hj] at q
        obtain ⟨y, hy, rv⟩ := e.rep.at_ j v q
        refine ⟨y, hy, ?_⟩
        cases v with
        | d z => exact Fz.stay st rv
        | own us =>
          obtain ⟨b, vs, rfl, h1, al'⟩ := rv
          exact ⟨b, vs, rfl, x b _ h1 (fun z => hj (e.rep.inj j i us ys a q hi (by rw [← z]; exact hy) hs)) fun _ z => (by cases z), FzAll.stay st al'⟩
    · obtain ⟨x1, h1⟩ := own' j _ q1
      obtain ⟨x2, h2⟩ := own' k _ q2
      exact e.rep.inj j k x1 x2 b h1 h2 s1 s2
    · obtain ⟨x1, h1⟩ := own' j _ q1
      exact ⟨j, x1, h1, q2⟩
    · by_cases hj : j = i
      · exact ⟨_, by rw [hj]; exact get_set_self hi⟩
      · exact ⟨w, by rw [get_set_ne hj]; exact h⟩
  exact ⟨e.trans e2, st⟩
/-- the answer of a call, of values that stand -/
theorem call_sa {K : PySem.W.Frag} {σ : L2.St} {H0 H1 : Hp} {env0 env1 : DEnv} {n : Nat} {r : List DV → CA} {vs : List V} {dvs : List DV} (e1 : EP1 K TB σ H0 env0 H1 env1) (hn : vs.length = n) (hv : RVs K H1 vs dvs) :
    SndAt K TB W σ H0 env0 (fun Q => spF K TB cr n r vs H1 Q (WK cr W)) (match r dvs with
      | .ok v none => R.ok (PV.val v) env1
      | .exc k => .exc k
      | _ => .bad) (fun H' env' v pv => PR K H0 H' σ env' v pv) := by
  cases hc : r dvs with
  | bad => exact sa_bad
  | exc k0 =>
    refine ⟨fun _ _ q => (nomatch q), fun k' q hw Q => ?_⟩
    cases q
    refine ⟨hn, dvs, hv, e1.rep.tabs, ?_⟩
    rw [hc]
    exact fun H2 x2 g2 t2 => ⟨k0, rfl, hw H2 (e1.ext.trans x2 fun _ _ _ z => z.elim) (fun b q => e1.gone b (g2 b q)) t2⟩
  | ok v b =>
    cases b with
    | some zs => exact sa_bad
    | none =>
      refine sa_val fun Q kk => ⟨hn, dvs, hv, e1.rep.tabs, ?_⟩
      rw [hc]
      intro y H2 x2 g2 t2 rn
      obtain ⟨e2, _⟩ := e1.call x2 g2 t2
      exact kk y H2 e2 (PR.whole e1 rn.pr)
theorem so_call {O : Orc} {i k n : Nat} {f : Addr} {fd : FuncData} {ps : List Str} {x : Str} {p pos : Pos} {e : Expr} {es : List Expr} {fs : DEnv → R (List PyData)} (F : FnG X.prog X.w X.K X.mg X.base k f fd ps (spF X.K TB cr n (O.cf i))) (hr : Room k X.A) (gd : X.A.guards = some []) (hb : Binds X.K fd ps []) (tk : L2N.Takes X (WW cr W)) (hg : Gl X x) (hm : X.mg x = some (.ref f)) (hk : PySem.W.keepIn X.K (.ref f) = true)
    (hn : (e :: es).length = n) (hdb : (x == ("__debug__" : Str)) = false) (he : starEach (e :: es) X.env = (false, eval e X.env) :: starEach es X.env) (hpl : (backTo pos (starEach es X.env)).any (·.1) = false) (hl : ∀ env xs env', fs env = .ok xs env' → xs.length = n) (ha : SoA X TB W (e :: es) fs) :
    SoE X TB W (.Call (.Name x p) (e :: es) [] pos) (fun e => (fs e).bind fun xs e1 => match O.cf i (xs.map .d) with
    | .ok v none => .ok (.val v) e1
    | .exc k => .exc k
    | _ => .bad) := by
  obtain ⟨t, pt, st⟩ := ha
  refine ⟨_, pe_callG F hr gd hb tk hg hm hk pt hdb he hpl, fun σ H env re => ?_⟩
  refine sa_bindE (st σ H env re) fun vs xs H1 env1 hfs e1 r1 => ?_
  have hln : vs.length = n := by rw [r1.length]; exact hl _ _ _ hfs
  exact call_sa e1 hln (.of r1)
theorem so_call0 {O : Orc} {i k : Nat} {f : Addr} {fd : FuncData} {ps : List Str} {x : Str} {p pos : Pos} (F : FnG X.prog X.w X.K X.mg X.base k f fd ps (spF X.K TB cr 0 (O.cf i))) (hr : Room k X.A) (gd : X.A.guards = some []) (hb : Binds X.K fd ps []) (tk : L2N.Takes X (WW cr W)) (hg : Gl X x) (hm : X.mg x = some (.ref f)) (hk : PySem.W.keepIn X.K (.ref f) = true)
    (hdb : (x == ("__debug__" : Str)) = false) :
    SoE X TB W (.Call (.Name x p) [] [] pos) (fun e => (R.ok ([] : List PyData) e).bind fun xs e1 => match O.cf i (xs.map .d) with
    | .ok v none => .ok (.val v) e1
    | .exc k => .exc k
    | _ => .bad) := by
  exact ⟨_, pe_callG0 F hr gd hb tk hg hm hk hdb, fun σ H env re => call_sa (EP1.refl re) rfl .nil⟩
/-- f(y, ..) that changes y's own list -/
theorem so_callm {O : Orc} {i j k n : Nat} {f : Addr} {fd : FuncData} {ps : List Str} {x y : Str} {p p2 pos : Pos} {es : List Expr} {fs : DEnv → R (List PyData)} (F : FnG X.prog X.w X.K X.mg X.base k f fd ps (spF X.K TB cr n (O.cf i))) (hr : Room k X.A) (gd : X.A.guards = some []) (hb : Binds X.K fd ps []) (tk : L2N.Takes X (WW cr W)) (hg : Gl X x) (hm : X.mg x = some (.ref f)) (hk : PySem.W.keepIn X.K (.ref f) = true)
    (hN : X.N[j]? = some y) (hv : Vis X.env.scope y) (hd : (y == ("__debug__" : Str)) = false) (hcd : (y == ("__classdict__" : Str)) = false)
    (hdb : (x == ("__debug__" : Str)) = false) (hpl : (backTo pos (starEach es X.env)).any (·.1) = false) (hl : ∀ env xs env', fs env = .ok xs env' → xs.length + 1 = n) (ha : SoA X TB W es fs) :
    SoE X TB W (.Call (.Name x p) (.Name y p2 :: es) [] pos) (fun e => match e[j]? with
    | some (some (.own _)) => (fs e).bind fun xs e1 => (match e1[j]? with
      | some (some (.own ys)) => (match O.cf i (.own ys :: xs.map .d) with
        | .ok v (some zs) => .ok (.val v) (e1.set j (some (.own zs)))
        | _ => .bad)
      | _ => .bad)
    | _ => .bad) := by
  obtain ⟨t, pt, st⟩ := ha
  have py : PE X (.Name y p2) (tVar j) := pe_var hN hv hd hcd
  refine ⟨_, pe_callG F hr gd hb tk hg hm hk (pa_cons py pt) hdb rfl hpl, fun σ H env re => ?_⟩
  dsimp only
  split
  · rename_i ys0 h0
    obtain ⟨y0, hs, a, vs0, rfl, _, _⟩ := re.at_ j _ h0
    have st1 : SndAt X.K TB W σ H env (fun Q => t σ H fun xs H2 => spF X.K TB cr n (O.cf i) (V.ref a :: xs) H2 Q (WK cr W)) ((fs env).bind fun xs e1 => (match e1[j]? with
      | some (some (.own ys)) => (match O.cf i (.own ys :: xs.map .d) with
        | .ok v (some zs) => R.ok (PV.val v) (e1.set j (some (.own zs)))
        | _ => .bad)
      | _ => .bad)) (fun H' env' v pv => PR X.K H H' σ env' v pv) := by
      refine sa_bindE (st σ H env re) fun vs xs H1 env1 hfs e1 r1 => ?_
      split
      · rename_i ys h1
        obtain ⟨y1, hs1, a1, vs1, rfl, h2, al⟩ := e1.rep.at_ j _ h1
        rw [hs] at hs1
        cases hs1
        have rv : RVs X.K H1 (V.ref a :: vs) (.own ys :: xs.map .d) := .cons ⟨a, vs1, rfl, h2, al⟩ (.of r1)
        have hln : (V.ref a :: vs).length = n := by
          rw [List.length_cons, r1.length]
          exact hl _ _ _ hfs
        cases hc : O.cf i (.own ys :: xs.map .d) with
        | bad => exact sa_bad
        | exc k0 => exact sa_bad
        | ok v b =>
          cases b with
          | none => exact sa_bad
          | some zs =>
            refine sa_val fun Q kk => ⟨hln, _, rv, e1.rep.tabs, ?_⟩
            rw [hc]
            refine ⟨a, ys, rfl, rfl, fun y H2 ws x2 g2 t2 ha fa rn => ?_⟩
            obtain ⟨e2, _⟩ := e1.putN h1 hs x2 g2 t2 ha fa
            exact kk y H2 e2 (PR.whole e1 rn.pr)
      · exact sa_bad
    refine ⟨fun pv env' q Q kk => ⟨_, hs, st1.1 pv env' q Q kk⟩, fun k' q hw Q => ⟨_, hs, st1.2 k' q hw Q⟩⟩
  · exact sa_bad
end
end Wd
/-! Wd 8: built-in functions and types, called. -/
namespace Wd
open PySem PySem.Spec PyProof.Rows L2
section
variable {X : Cx} {TB : TL} {W : WEx}
def BlD (K : PySem.W.Frag) (r : List V → Hp → VK → Prop) (f : List PyData → Option DV) : Prop :=
  ∀ (H : Hp) (vs : List V) (ds : List PyData) (dv : DV), RDAll K H vs ds → f ds = some dv → ∀ Q : VK, (∀ v H', Grow K H H' v dv → Q v H') → r vs H Q
theorem rd1 {K : PySem.W.Frag} {H : Hp} {vs : List V} {d : PyData} (h : RDAll K H vs [d]) : ∃ v, vs = [v] ∧ RD K H v d := by
  cases h with
  | cons h r =>
    cases r
    exact ⟨_, rfl, h⟩
theorem rd2 {K : PySem.W.Frag} {H : Hp} {vs : List V} {d e : PyData} (h : RDAll K H vs [d, e]) : ∃ v u, vs = [v, u] ∧ RD K H v d ∧ RD K H u e := by
  cases h with
  | cons h r =>
    cases r with
    | cons h2 r =>
      cases r
      exact ⟨_, _, rfl, h, h2⟩
theorem intsD_fz {K : PySem.W.Frag} {H : Hp} : ∀ {xs : List PyData} {ns : List Int} {vs : List V}, intsD xs = some ns → FzAll K H vs xs → vs = ns.map V.int
  | [], ns, vs, e, al => by
    cases e
    cases al
    rfl
  | x :: xs, ns, vs, e, al => by
    cases x <;> simp only [intsD, reduceCtorEq] at e
    rw [Option.map_eq_some_iff] at e
    obtain ⟨ms, h, rfl⟩ := e
    cases al with
    | cons a r =>
      cases a
      rw [intsD_fz h r, List.map_cons]
theorem boolsD_fz {K : PySem.W.Frag} {H : Hp} : ∀ {xs : List PyData} {ns : List Bool} {vs : List V}, boolsD xs = some ns → FzAll K H vs xs → vs = ns.map V.bl
  | [], ns, vs, e, al => by
    cases e
    cases al
    rfl
  | x :: xs, ns, vs, e, al => by
    cases x <;> simp only [boolsD, reduceCtorEq] at e
    rw [Option.map_eq_some_iff] at e
    obtain ⟨ms, h, rfl⟩ := e
    cases al with
    | cons a r =>
      cases a
      rw [boolsD_fz h r, List.map_cons]
/-- repr of a list -/
def rRepr (K : PySem.W.Frag) : List V → Hp → VK → Prop := fun vs H Q => ∃ a ds, vs = [V.ref a] ∧ Dp K H (.ref a) (.list ds) ∧ showOk (.list ds) = true ∧ Q (.str (PyData.shown (.list ds))) H
theorem cr_repr (gd : X.A.guards = some []) (hu : X.A.units + 64 < cLine) : CallR X (.builtin "repr") (rRepr X.K) := by
  intro pins s σ H xs us Q I r h
  obtain ⟨a, ds, rfl, hd, ok, q⟩ := h
  obtain ⟨u, rfl, rx⟩ := vals1 r
  obtain ⟨as, hr⟩ := Dp.reads I _ _ _ hd rx
  cases rx
  simp only [showOk, Bool.and_eq_true, decide_eq_true_eq, Bool.not_eq_true'] at ok
  obtain ⟨⟨⟨o1, o2⟩, o3⟩, o4⟩ := ok
  exact repr_of_reads' hr o1 (PyData.noDict_hsm o2) gd (by omega) (fun _ _ e => e) (fun h' u' tk k => ⟨.str _, H, I.kept k, ⟨u', rfl⟩, q⟩) o4
theorem maxI_ge : ∀ (r : List Int) (m : Int), m ≤ maxI m r ∧ ∀ y ∈ r, y ≤ maxI m r
  | [], m => ⟨Int.le_refl _, fun _ h => (by cases h)⟩
  | n :: r, m => by
    obtain ⟨h1, h2⟩ := maxI_ge r (if m < n then n else m)
    simp only [maxI]
    refine ⟨Int.le_trans ?_ h1, fun y hy => ?_⟩
    · split <;> omega
    · rcases List.mem_cons.mp hy with rfl | hy
      · refine Int.le_trans ?_ h1
        split <;> omega
      · exact h2 y hy
theorem maxI_mem : ∀ (r : List Int) (m : Int), maxI m r = m ∨ maxI m r ∈ r
  | [], m => .inl rfl
  | n :: r, m => by
    simp only [maxI]
    rcases maxI_mem r (if m < n then n else m) with h | h
    · rw [h]
      split
      · exact .inr List.mem_cons_self
      · exact .inl rfl
    · exact .inr (List.mem_cons_of_mem _ h)
theorem maxI_is {n m : Int} {r : List Int} (hm : m ∈ n :: r) (hle : ∀ y, y ∈ n :: r → y ≤ m) : maxI n r = m := by
  obtain ⟨h1, h2⟩ := maxI_ge r n
  have a : m ≤ maxI n r := by
    rcases List.mem_cons.mp hm with rfl | h
    · exact h1
    · exact h2 _ h
  have b : maxI n r ≤ m := by
    rcases maxI_mem r n with h | h
    · rw [h]
      exact hle _ List.mem_cons_self
    · exact hle _ (List.mem_cons_of_mem _ h)
  omega
theorem minI_le : ∀ (r : List Int) (m : Int), minI m r ≤ m ∧ ∀ y ∈ r, minI m r ≤ y
  | [], m => ⟨Int.le_refl _, fun _ h => (by cases h)⟩
  | n :: r, m => by
    obtain ⟨h1, h2⟩ := minI_le r (if n < m then n else m)
    simp only [minI]
    refine ⟨Int.le_trans h1 ?_, fun y hy => ?_⟩
    · split <;> omega
    · rcases List.mem_cons.mp hy with rfl | hy
      · refine Int.le_trans h1 ?_
        split <;> omega
      · exact h2 y hy
theorem minI_mem : ∀ (r : List Int) (m : Int), minI m r = m ∨ minI m r ∈ r
  | [], m => .inl rfl
  | n :: r, m => by
    simp only [minI]
    rcases minI_mem r (if n < m then n else m) with h | h
    · rw [h]
      split
      · exact .inr List.mem_cons_self
      · exact .inl rfl
    · exact .inr (List.mem_cons_of_mem _ h)
theorem minI_is {n m : Int} {r : List Int} (hm : m ∈ n :: r) (hle : ∀ y, y ∈ n :: r → m ≤ y) : minI n r = m := by
  obtain ⟨h1, h2⟩ := minI_le r n
  have a : minI n r ≤ m := by
    rcases List.mem_cons.mp hm with rfl | h
    · exact h1
    · exact h2 _ h
  have b : m ≤ minI n r := by
    rcases minI_mem r n with h | h
    · rw [h]
      exact hle _ List.mem_cons_self
    · exact hle _ (List.mem_cons_of_mem _ h)
  omega
/-- sum(xs) of a tuple of ints -/
def rSumT (K : PySem.W.Frag) : List V → Hp → VK → Prop := fun vs H Q => ∃ (a : Addr) (ns : List Int), vs = [V.ref a] ∧ SqT K H a (ns.map V.int) ∧ Q (.int ns.sum) H
theorem sum_tup {prog : Program} {w : World} {A : Around} {E : Value → Shared → Prop} {s : Shared} {l : Addr} {its : List Value} {ns : List Int} {Q : Value → Shared → Prop} (hh : A.handled = none) (hl : IsTup s.heap l its.toArray) (hi : IntsAre its ns)
    (h : ∀ h' tk t', (∀ b o, s.heap.get? b = some o → h'.get? b = some o) → Q (.int ns.sum t') { s with heap := h', toks := tk }) : wpAny (model prog w) A (call (.builtin "sum") [.ref l]) Q E s := by
  obtain ⟨xs, e⟩ := hi.allInts.items
  have hn : numsOf (intItems xs).toList = ns := by rw [← e]; exact hi.numsOf
  rw [nums_intItems] at hn
  rw [e] at hl
  obtain ⟨o, ho, hc, n, hd⟩ := hl
  have hlt := Heap.lt_size ho
  have kp : ∀ b u, s.heap.get? b = some u → (s.heap.push { cls := .type "tuple_iterator", data := .fields #[.ref l, .int 0 0] }).get? b = some u := fun b u q => Heap.get?_push_of_some _ q
  refine PySem.call_sum_walkG (iter_tuple ⟨o, ho, hc, n, hd⟩ ⟨_, _, _, _, _, _, numAt xs, rfl, Walks.tuple (A := A.in1) hh s.heap.objs.size l (Nat.ne_of_lt hlt) (intItems xs), ⟨⟨_, Heap.get?_push_size _ rfl, rfl, rfl⟩, ⟨o, kp _ _ ho, hc, n, hd⟩⟩, fun b hb => ?_, fun _ _ => intItems_at, fun h' tk t' hk => ?_⟩)
  · show b < (s.heap.push _).objs.size
    rw [Heap.size_push]
    rcases List.mem_cons.mp hb with rfl | hb
    · exact Nat.lt_succ_self _
    · rcases List.mem_cons.mp hb with rfl | hb
      · exact Nat.lt_succ_of_lt hlt
      · cases hb
  · have z := h h' tk t' fun b u q => hk b u (by
      intro m
      rw [List.mem_singleton] at m
      have h9 := Heap.lt_size q
      rw [m] at h9
      exact Nat.lt_irrefl _ h9) (kp b u q)
    have e2 : preSum (numAt xs) (intItems xs).size = ns.sum := by
      rw [show (intItems xs).size = xs.size by simp [intItems], preSum_eq, List.take_of_length_le (by simp), hn]
    rw [e2]
    exact z
theorem cr_sumT (hc : X.calm = true) : CallR X (.builtin "sum") (rSumT X.K) := by
  intro pins s σ H vs us Q I r h
  obtain ⟨a, ns, rfl, hs, q⟩ := h
  obtain ⟨its, rv, hl, _⟩ := I.tuple hs
  rw [Vals.ref1 r]
  exact sum_tup (I.ok.hd hc) hl rv.ints fun h' tk t' hk => ⟨.int _, H, I.kept hk, ⟨_, rfl⟩, q⟩
def Blt.id : Blt → String
  | .abs => "abs"
  | .int => "int"
  | .len => "len"
  | .max => "max"
  | .min => "min"
  | .sum => "sum"
  | .all => "all"
  | .any => "any"
  | .repr => "repr"
  | .str => "str"
  | .tuple => "tuple"
  | .list => "list"
  | .sorted => "sorted"
/-- built-ins that end an iterator, or call: not where an error is handled -/
def Blt.cold : Blt → Bool
  | .max => true
  | .min => true
  | .sum => true
  | .all => true
  | .any => true
  | .sorted => true
  | _ => false
def Blt.ty : Blt → Bool
  | .int => true
  | .str => true
  | .tuple => true
  | .list => true
  | _ => false
theorem boot_blt : ∀ b : Blt, b.ty = false → bootBuiltins (Str.ofString b.id) = some (.builtin b.id) := by
  intro b h
  cases b <;> first | exact absurd h (by decide) | decide +kernel
theorem boot_ty : ∀ b : Blt, b.ty = true → bootBuiltins (Str.ofString b.id) = some (.type b.id) := by
  intro b h
  cases b <;> first | exact absurd h (by decide) | decide +kernel
theorem blt_nm : ∀ b : Blt, Str.ofString b.id ≠ "__name__" ∧ ((Str.ofString b.id == ("__debug__" : Str)) = false) := by
  intro b
  cases b <;> decide +kernel
theorem bl_fun (gd : X.A.guards = some []) (hu : X.A.units + 65 < cLine) : ∀ b : Blt, (b.cold = true → X.calm = true) → b.ty = false → ∃ r, CallR X (.builtin b.id) r ∧ BlD X.K r (bltR b) := by
  intro b hc h
  cases b with
  | int => cases h
  | str => cases h
  | tuple => cases h
  | list => cases h
  | abs =>
    refine ⟨_, call_abs, fun H vs ds dv hv e Q q => ?_⟩
    simp only [bltR, bAbs] at e
    split at e <;> try (cases e; done)
    cases e
    obtain ⟨v, rfl, h1⟩ := rd1 hv
    cases h1.int
    exact ⟨_, rfl, q _ _ (grow_d (.int _))⟩
  | len =>
    refine ⟨_, call_len, fun H vs ds dv hv e Q q => ?_⟩
    simp only [bltR, bLen] at e
    split at e <;> try (cases e; done)
    · cases e
      obtain ⟨v, rfl, h1⟩ := rd1 hv
      obtain ⟨a, ws, rfl, hs, al⟩ := h1.list
      exact ⟨_, _, rfl, .inl ⟨ws, hs, rfl⟩, q _ _ (by rw [al.length]; exact grow_d (.int _))⟩
    · cases e
      obtain ⟨v, rfl, h1⟩ := rd1 hv
      obtain ⟨a, ws, rfl, hs, al⟩ := h1.tuple
      exact ⟨_, _, rfl, .inr ⟨ws, hs, rfl⟩, q _ _ (by rw [al.length]; exact grow_d (.int _))⟩
    · split at e
      · cases e
        obtain ⟨v, rfl, h1⟩ := rd1 hv
        cases h1.str
        exact ⟨_, _, rfl, ⟨by assumption, rfl⟩, q _ _ (grow_d (.int _))⟩
      · cases e
  | max =>
    refine ⟨_, CallR.or (call_max2 (hc rfl)) (cr_max (hc rfl)), fun H vs ds dv hv e Q q => ?_⟩
    simp only [bltR, bMax] at e
    split at e <;> try (cases e; done)
    · cases e
      obtain ⟨v, u, rfl, h1, h2⟩ := rd2 hv
      cases h1.int
      cases h2.int
      exact .inl ⟨_, _, rfl, q _ _ (grow_d (.int _))⟩
    · split at e <;> try (cases e; done)
      rename_i n r hn
      cases e
      obtain ⟨v, rfl, h1⟩ := rd1 hv
      obtain ⟨a, ws, rfl, hs, al⟩ := h1.list
      rw [intsD_fz hn al] at hs
      refine .inr ⟨a, _, rfl, hs, by simp, fun m hm hle => ?_⟩
      rw [maxI_is hm hle] at q
      exact q _ _ (grow_d (.int _))
  | min =>
    refine ⟨_, CallR.or (call_min2 (hc rfl)) (cr_min (hc rfl)), fun H vs ds dv hv e Q q => ?_⟩
    simp only [bltR, bMin] at e
    split at e <;> try (cases e; done)
    · cases e
      obtain ⟨v, u, rfl, h1, h2⟩ := rd2 hv
      cases h1.int
      cases h2.int
      exact .inl ⟨_, _, rfl, q _ _ (grow_d (.int _))⟩
    · split at e <;> try (cases e; done)
      rename_i n r hn
      cases e
      obtain ⟨v, rfl, h1⟩ := rd1 hv
      obtain ⟨a, ws, rfl, hs, al⟩ := h1.list
      rw [intsD_fz hn al] at hs
      refine .inr ⟨a, _, rfl, hs, by simp, fun m hm hle => ?_⟩
      rw [minI_is hm hle] at q
      exact q _ _ (grow_d (.int _))
  | sum =>
    refine ⟨_, CallR.or (cr_sum (hc rfl)) (cr_sumT (hc rfl)), fun H vs ds dv hv e Q q => ?_⟩
    simp only [bltR, bSum] at e
    split at e <;> try (cases e; done)
    · rw [Option.map_eq_some_iff] at e
      obtain ⟨ns, hn, rfl⟩ := e
      obtain ⟨v, rfl, h1⟩ := rd1 hv
      obtain ⟨a, ws, rfl, hs, al⟩ := h1.list
      rw [intsD_fz hn al] at hs
      exact .inl ⟨a, ns, rfl, hs, q _ _ (grow_d (.int _))⟩
    · rw [Option.map_eq_some_iff] at e
      obtain ⟨ns, hn, rfl⟩ := e
      obtain ⟨v, rfl, h1⟩ := rd1 hv
      obtain ⟨a, ws, rfl, hs, al⟩ := h1.tuple
      rw [intsD_fz hn al] at hs
      exact .inr ⟨a, ns, rfl, hs, q _ _ (grow_d (.int _))⟩
  | all =>
    refine ⟨_, cr_all (hc rfl), fun H vs ds dv hv e Q q => ?_⟩
    simp only [bltR, bAll] at e
    split at e <;> try (cases e; done)
    rw [Option.map_eq_some_iff] at e
    obtain ⟨ns, hn, rfl⟩ := e
    obtain ⟨v, rfl, h1⟩ := rd1 hv
    obtain ⟨a, ws, rfl, hs, al⟩ := h1.list
    rw [boolsD_fz hn al] at hs
    exact ⟨a, ns, rfl, hs, q _ _ (grow_d (.bl _))⟩
  | any =>
    refine ⟨_, cr_any (hc rfl), fun H vs ds dv hv e Q q => ?_⟩
    simp only [bltR, bAny] at e
    split at e <;> try (cases e; done)
    rw [Option.map_eq_some_iff] at e
    obtain ⟨ns, hn, rfl⟩ := e
    obtain ⟨v, rfl, h1⟩ := rd1 hv
    obtain ⟨a, ws, rfl, hs, al⟩ := h1.list
    rw [boolsD_fz hn al] at hs
    exact ⟨a, ns, rfl, hs, q _ _ (grow_d (.bl _))⟩
  | repr =>
    refine ⟨_, cr_repr gd (by omega), fun H vs ds dv hv e Q q => ?_⟩
    simp only [bltR, bRepr] at e
    split at e <;> try (cases e; done)
    split at e
    · cases e
      obtain ⟨v, rfl, h1⟩ := rd1 hv
      obtain ⟨a, ws, rfl, hs, al⟩ := h1.list
      exact ⟨a, _, rfl, .lst hs al.dp, by assumption, q _ _ (grow_d (.str _))⟩
    · cases e
  | sorted =>
    exact ⟨fun _ _ _ => False, fun _ _ _ _ _ _ _ _ _ z => z.elim, fun H vs ds dv hv e Q q => by cases e⟩
theorem bl_ty : ∀ b : Blt, b.ty = true → ∃ r, CallR X (.type b.id) r ∧ BlD X.K r (bltR b) := by
  intro b h
  cases b with
  | abs => cases h
  | len => cases h
  | max => cases h
  | min => cases h
  | sum => cases h
  | all => cases h
  | any => cases h
  | repr => cases h
  | sorted => cases h
  | int =>
    refine ⟨_, call_int1, fun H vs ds dv hv e Q q => ?_⟩
    simp only [bltR, bInt] at e
    split at e <;> try (cases e; done)
    · cases e
      obtain ⟨v, rfl, h1⟩ := rd1 hv
      cases h1.int
      exact .inl ⟨_, rfl, q _ _ (grow_d (.int _))⟩
    · cases e
      obtain ⟨v, rfl, h1⟩ := rd1 hv
      cases h1.bool
      exact .inr ⟨_, rfl, q _ _ (grow_d (.int _))⟩
  | str =>
    refine ⟨_, call_str_int, fun H vs ds dv hv e Q q => ?_⟩
    simp only [bltR, bStr] at e
    split at e <;> try (cases e; done)
    split at e
    · cases e
      obtain ⟨v, rfl, h1⟩ := rd1 hv
      cases h1.int
      exact ⟨_, rfl, by assumption, q _ _ (grow_d (.str _))⟩
    · cases e
  | tuple =>
    refine ⟨_, call_tuple_of, fun H vs ds dv hv e Q q => ?_⟩
    simp only [bltR, bTuple] at e
    split at e <;> try (cases e; done)
    · cases e
      obtain ⟨v, rfl, h1⟩ := rd1 hv
      obtain ⟨a, ws, rfl, hs, al⟩ := h1.list
      exact ⟨a, ws, rfl, .inl ⟨hs, fun l n => q _ _ (grow_tup n al)⟩⟩
    · cases e
      obtain ⟨v, rfl, h1⟩ := rd1 hv
      obtain ⟨a, ws, rfl, hs, al⟩ := h1.tuple
      exact ⟨a, ws, rfl, .inr ⟨hs, q _ _ (grow_d (.tup hs al))⟩⟩
  | list =>
    refine ⟨_, call_list_of, fun H vs ds dv hv e Q q => ?_⟩
    simp only [bltR, bList] at e
    split at e <;> try (cases e; done)
    · cases e
      obtain ⟨v, rfl, h1⟩ := rd1 hv
      obtain ⟨a, ws, rfl, hs, al⟩ := h1.list
      exact ⟨a, ws, rfl, .inl hs, fun l n => q _ _ (grow_lst n al)⟩
    · cases e
      obtain ⟨v, rfl, h1⟩ := rd1 hv
      obtain ⟨a, ws, rfl, hs, al⟩ := h1.tuple
      exact ⟨a, ws, rfl, .inr hs, fun l n => q _ _ (grow_lst n al)⟩
theorem strsD_fz {K : PySem.W.Frag} {H : Hp} : ∀ {xs : List PyData} {ns : List Str} {vs : List V}, strsD xs = some ns → FzAll K H vs xs → vs = ns.map V.str
  | [], ns, vs, e, al => by
    cases e
    cases al
    rfl
  | x :: xs, ns, vs, e, al => by
    cases x <;> simp only [strsD, reduceCtorEq] at e
    rw [Option.map_eq_some_iff] at e
    obtain ⟨ms, hm, rfl⟩ := e
    cases al with
    | cons h r =>
      cases h
      rw [strsD_fz hm r]
      rfl
def M1.nm : M1 → Str
  | .join => "join"
  | .count => "count"
def ML.nm : ML → Str
  | .count => "count"
  | .index => "index"
def notSup : Expr → Bool
  | .Call (.Name ..) [] [] _ => false
  | _ => true
theorem base_eq {o : Expr} (h : notSup o = true) (x : Str) (env : Env) (w : Sem Value) : attributeBase o x env w = w := by
  unfold attributeBase
  split
  · cases h
  · rfl
/-- what a method's rule tells -/
def MtD (K : PySem.W.Frag) (r : V → List V → Hp → VK → Prop) (f : Str → PyData → Option DV) : Prop :=
  ∀ (H : Hp) (a : Str) (y : V) (dy : PyData) (dv : DV), RD K H y dy → f a dy = some dv → ∀ Q : VK, (∀ v H', Grow K H H' v dv → Q v H') → r (.str a) [y] H Q
theorem md_join {K : PySem.W.Frag} : MtD K (fun x xs H Q => ∃ a p, ∃ ys : List Str, x = .str a ∧ xs = [.ref p] ∧ (SqL K H p (ys.map V.str) ∨ SqT K H p (ys.map V.str)) ∧
      (ys.map (·.length)).sum + ys.length * a.length ≤ 16777216 ∧ Q (.str (Txt.join a ys)) H) (mth1 .join) := by
  intro H a y dy dv hy e Q q
  simp only [mth1] at e
  split at e <;> try (cases e; done)
  rename_i ys hys
  split at e <;> try (cases e; done)
  rename_i hz
  cases e
  rw [Option.bind_eq_some_iff] at hys
  obtain ⟨xs, h1, h2⟩ := hys
  cases dy <;> simp only [seqD, reduceCtorEq, Option.some.injEq] at h1
  · subst h1
    obtain ⟨p, ws, rfl, hs, al⟩ := hy.list
    rw [strsD_fz h2 al] at hs
    exact ⟨a, p, ys, rfl, rfl, .inl hs, hz, q _ _ (grow_d (.str _))⟩
  · subst h1
    obtain ⟨p, ws, rfl, hs, al⟩ := hy.tuple
    rw [strsD_fz h2 al] at hs
    exact ⟨a, p, ys, rfl, rfl, .inr hs, hz, q _ _ (grow_d (.str _))⟩
theorem md_count {K : PySem.W.Frag} : MtD K (fun x xs H Q => ∃ a b, x = .str a ∧ xs = [.str b] ∧ Q (.int (Txt.count a b)) H) (mth1 .count) := by
  intro H a y dy dv hy e Q q
  cases dy <;> simp only [mth1, reduceCtorEq] at e
  cases e
  cases hy.str
  exact ⟨a, _, rfl, rfl, q _ _ (grow_d (.int _))⟩
/-- lists have methods -/
def tyL (K : PySem.W.Frag) (x : V) (H : Hp) : Prop := ∃ a xs, x = .ref a ∧ SqL K H a xs
theorem ty_list : TyOk X "list" (tyL X.K) := by
  intro pins σ H s x v I r ty
  obtain ⟨a, xs, rfl, h⟩ := ty
  cases r
  obtain ⟨its, rv, ⟨o, n, ho, hc, hd, hdt⟩, hz⟩ := I.list h
  refine ⟨⟨_, ho, hc⟩, fun b e => ?_⟩
  cases e
  exact ⟨o, ho, hd⟩
def MlD (K : PySem.W.Frag) (r : V → List V → Hp → VK → Prop) (f : PyData → PyData → Option DV) : Prop :=
  ∀ (H : Hp) (x y : V) (dx dy : PyData) (dv : DV), RD K H x dx → RD K H y dy → f dx dy = some dv → ∀ Q : VK, (∀ v H', Grow K H H' v dv → Q v H') → r x [y] H Q
theorem ml_count {K : PySem.W.Frag} : MlD K (rCntI K) (mthL .count) := by
  intro H x y dx dy dv hx hy e Q q
  cases dx <;> cases dy <;> simp only [mthL, reduceCtorEq] at e
  rw [Option.map_eq_some_iff] at e
  obtain ⟨ns, hn, rfl⟩ := e
  obtain ⟨p, ws, rfl, hs, al⟩ := hx.list
  cases hy.int
  rw [intsD_fz hn al] at hs
  exact ⟨p, ns, _, rfl, rfl, hs, q _ _ (grow_d (.int _))⟩
theorem ml_index {K : PySem.W.Frag} : MlD K (rIndexD K) (mthL .index) := by
  intro H x y dx dy dv hx hy e Q q
  cases dx <;> simp only [mthL, reduceCtorEq] at e
  split at e
  · rename_i h
    simp only [Bool.and_eq_true] at h
    rw [Option.map_eq_some_iff] at e
    obtain ⟨j, hj, rfl⟩ := e
    rw [List.findIdx?_eq_some_iff_getElem] at hj
    obtain ⟨hlt, h1, h2⟩ := hj
    obtain ⟨p, ws, rfl, hs, al⟩ := hx.list
    refine ⟨p, y, dy, _, j, _, rfl, rfl, hx.dp, hy.dp, h.1, h.2, List.getElem?_eq_getElem hlt, h1, fun m z hm hz => ?_, q _ _ (grow_d (.int _))⟩
    obtain ⟨hlt2, e2⟩ := List.getElem?_eq_some_iff.mp hz
    have := h2 m hm
    rw [e2] at this
    simpa using this
  · cases e
theorem so_ml {m : ML} {a b : Expr} {fa fb : DEnv → R PV} {apos pos : Pos} (hu : X.A.units + 65 < cLine) (h1 : notSup a = true) (h2 : (apos.endLine == pos.line) = true) (hs : starEach [b] X.env = [(false, eval b X.env)]) (ha : SoE X TB W a fa) (hb : SoE X TB W b fb) :
    SoE X TB W (.Call (.Attribute a m.nm apos) [b] [] pos) (fun e => (fa e).bind fun pa e1 => match res pa e1 with
      | some (.list _) => (fb e1).bind fun pb e2 => lift1 ((res pa e2).bind fun x => (res pb e2).bind fun y => (mthL m x y).map .val) e2
      | _ => .bad) := by
  obtain ⟨ta, pa, sa⟩ := ha
  obtain ⟨tb, pb, sb⟩ := hb
  have go : ∀ r : V → List V → Hp → VK → Prop, MlD X.K r (mthL m) → Snd X.K TB W (tMG (tyL X.K) r ta (tCons tb tNil)) (fun e => (fa e).bind fun pa e1 => match res pa e1 with
      | some (.list _) => (fb e1).bind fun pb e2 => lift1 ((res pa e2).bind fun x => (res pb e2).bind fun y => (mthL m x y).map .val) e2
      | _ => .bad) (fun H H' σ env' v pv => PR X.K H H' σ env' v pv) := fun r hr σ H env re => by
    show SndAt X.K TB W σ H env (fun Q => ta σ H fun x H1 => tyL X.K x H1 ∧ tb σ H1 fun y H2 => r x [y] H2 Q) _ _
    refine sa_bind (sa σ H env re) fun x pa H1 env1 e1 r1 => ?_
    split
    · rename_i ds hq
      obtain ⟨p, ws, ex, hl, _⟩ := (res_rd e1 r1 hq).list
      have ty : tyL X.K x H1 := ⟨p, ws, ex, hl⟩
      have s0 : SndAt X.K TB W σ H env (fun Q : VK => tb σ H1 fun y H2 => r x [y] H2 Q) ((fb env1).bind fun pb e2 => lift1 ((res pa e2).bind fun x => (res pb e2).bind fun y => (mthL m x y).map .val) e2) (fun H' env' v pv => PR X.K H H' σ env' v pv) := by
        refine sa_bind (sb.at e1) fun y pb H2 env2 e2 ⟨e12, r2⟩ => ?_
        refine lift1_sa fun dv hdv => ?_
        simp only [Option.bind_eq_some_iff, Option.map_eq_some_iff] at hdv
        obtain ⟨dx, hx, dy, hy, v, hv, rfl⟩ := hdv
        refine sa_val fun Q k => hr H2 x y dx dy v (res_rd e2 (r1.later e1 e12) hx) (res_rd e2 (r2.whole e1) hy) hv Q fun z H3 g => ?_
        obtain ⟨e3, r3⟩ := e2.grow g
        exact k z H3 e3 r3
      exact ⟨fun a2 env' hq Q k => ⟨ty, s0.1 a2 env' hq Q k⟩, fun k hq hw Q => ⟨ty, s0.2 k hq hw Q⟩⟩
    · exact sa_bad
  have few : ((backTo pos (starEach [b] X.env)).all (fun x => !x.1) && (backToKw pos (keywordEach [] X.env)).all (fun x => x.1.isSome)
      && decide (([b] : List Expr).length + ([] : List Keyword).length + (if ([] : List Keyword).isEmpty then 0 else 1) < 30)) = true := by rw [hs]; rfl
  have ar : PA X [b] (tCons tb tNil) := pa_cons pb pa_nil hs
  cases m with
  | count => exact ⟨_, pe_mG ty_list PySem.F.plainAttrs_list PySem.F.slot_list_count PySem.F.type_list_count mt_lcount pa ar (base_eq h1 _ _ _) few h2 hs rfl, go _ ml_count⟩
  | index => exact ⟨_, pe_mG ty_list PySem.F.plainAttrs_list PySem.F.slot_list_index PySem.F.type_list_index (mt_indexD hu) pa ar (base_eq h1 _ _ _) few h2 hs rfl, go _ ml_index⟩
/-- a text's method of one argument -/
theorem so_m1 {m : M1} {a b : Expr} {fa fb : DEnv → R PV} {apos pos : Pos} (h1 : notSup a = true) (h2 : (apos.endLine == pos.line) = true) (hs : starEach [b] X.env = [(false, eval b X.env)]) (ha : SoE X TB W a fa) (hb : SoE X TB W b fb) :
    SoE X TB W (.Call (.Attribute a m.nm apos) [b] [] pos) (fun e => (fa e).bind fun pa e1 => match res pa e1 with
      | some (.str s) => (fb e1).bind fun pb e2 => lift1 ((res pb e2).bind fun y => (mth1 m s y).map .val) e2
      | _ => .bad) := by
  obtain ⟨ta, pa, sa⟩ := ha
  obtain ⟨tb, pb, sb⟩ := hb
  have go : ∀ r : V → List V → Hp → VK → Prop, MtD X.K r (mth1 m) → Snd X.K TB W (tM1 r ta tb) (fun e => (fa e).bind fun pa e1 => match res pa e1 with
      | some (.str s) => (fb e1).bind fun pb e2 => lift1 ((res pb e2).bind fun y => (mth1 m s y).map .val) e2
      | _ => .bad) (fun H H' σ env' v pv => PR X.K H H' σ env' v pv) := fun r hr σ H env re => by
    show SndAt X.K TB W σ H env (fun Q => ta σ H fun x H1 => (∃ a, x = .str a) ∧ tb σ H1 fun y H2 => r x [y] H2 Q) _ _
    refine sa_bind (sa σ H env re) fun x pa H1 env1 e1 r1 => ?_
    split
    · rename_i s hq
      cases (res_rd e1 r1 hq).str
      have s0 : SndAt X.K TB W σ H env (fun Q : VK => tb σ H1 fun y H2 => r (.str s) [y] H2 Q) ((fb env1).bind fun pb e2 => lift1 ((res pb e2).bind fun y => (mth1 m s y).map .val) e2) (fun H' env' v pv => PR X.K H H' σ env' v pv) := by
        refine sa_bind (sb.at e1) fun y pb H2 env2 e2 ⟨e12, r2⟩ => ?_
        refine lift1_sa fun dv hdv => ?_
        simp only [Option.bind_eq_some_iff, Option.map_eq_some_iff] at hdv
        obtain ⟨dy, hy, v, hv, rfl⟩ := hdv
        refine sa_val fun Q k => hr H2 s y dy v (res_rd e2 (r2.whole e1) hy) hv Q fun z H3 g => ?_
        obtain ⟨e3, r3⟩ := e2.grow g
        exact k z H3 e3 r3
      exact ⟨fun a2 env' hq Q k => ⟨⟨s, rfl⟩, s0.1 a2 env' hq Q k⟩, fun k hq hw Q => ⟨⟨s, rfl⟩, s0.2 k hq hw Q⟩⟩
    · exact sa_bad
  cases m with
  | join => exact ⟨_, pe_join pa pb hs (base_eq h1 _ _ _) h2, go _ md_join⟩
  | count => exact ⟨_, pe_m1 PySem.F.slot_str_count PySem.F.type_str_count mt_count pa pb hs (base_eq h1 _ _ _) h2, go _ md_count⟩
theorem so_blt {b : Blt} {x : Str} {p pos : Pos} {e : Expr} {es : List Expr} {fs : DEnv → R (List PyData)} (hc : b.cold = true → X.calm = true) (gd : X.A.guards = some []) (hu : X.A.units + 65 < cLine) (hx : x = Str.ofString b.id) (hg : Gl X x) (hm : X.mg x = none)
    (he : starEach (e :: es) X.env = (false, eval e X.env) :: starEach es X.env) (hpl : (backTo pos (starEach es X.env)).any (·.1) = false) (ha : SoP X TB W (e :: es) fs) :
    SoE X TB W (.Call (.Name x p) (e :: es) [] pos) (fun e => (fs e).bind fun xs e1 => lift1 ((bltR b xs).map .val) e1) := by
  obtain ⟨t, pt, st⟩ := ha
  have go : ∀ r : List V → Hp → VK → Prop, BlD X.K r (bltR b) → Snd X.K TB W (fun σ H Q => t σ H fun vs H1 => r vs H1 Q) (fun e => (fs e).bind fun xs e1 => lift1 ((bltR b xs).map .val) e1) (fun H H' σ env' v pv => PR X.K H H' σ env' v pv) := fun r hr σ H env re => by
    refine sa_bind (st σ H env re) fun vs xs H1 env1 e1 r1 => ?_
    refine lift1_sa fun pv hp => ?_
    rw [Option.map_eq_some_iff] at hp
    obtain ⟨dv, hd, rfl⟩ := hp
    refine sa_val fun Q k => hr H1 vs xs dv r1 hd Q fun v H' g => ?_
    obtain ⟨e2, r2⟩ := e1.grow g
    exact k v H' e2 r2
  subst hx
  cases ht : b.ty with
  | false =>
    obtain ⟨r, hr, bd⟩ := bl_fun gd hu b hc ht
    exact ⟨_, pe_callB hr hg hm (boot_blt b ht) pt (blt_nm b).1 (blt_nm b).2 he hpl, go r bd⟩
  | true =>
    obtain ⟨r, hr, bd⟩ := bl_ty b ht
    exact ⟨_, pe_callTy hr hg hm (boot_ty b ht) pt (blt_nm b).1 (blt_nm b).2 he hpl, go r bd⟩
end
end Wd
/-! Wd 9: targets; what is walked; comprehensions. -/
namespace Wd
open PySem PySem.Spec PyProof.Rows L2
section
variable {K : PySem.W.Frag} {TB : TL} {H : Hp} {σ : L2.St} {env : DEnv}
theorem set_some_get {α : Type} {l : List (Option α)} {i j : Nat} {v : Option α} {w : α} (h : (l.set i v)[j]? = some (some w)) : (j = i ∧ v = some w) ∨ (j ≠ i ∧ l[j]? = some (some w)) := by
  by_cases hj : j = i
  · subst hj
    rw [List.getElem?_set] at h
    split at h
    · split at h
      · exact .inl ⟨rfl, Option.some.inj h⟩
      · cases h
    · rename_i hn
      exact absurd rfl hn
  · rw [List.getElem?_set_ne (Ne.symm hj)] at h
    exact .inr ⟨hj, h⟩
/-- a name is bound to a datum -/
theorem RepE.setd (r : RepE K TB H σ env) {i : Nat} {v : V} {x : PyData} (hi : i < σ.length) (h : Fz K H v x) : RepE K TB H (σ.set i (some v)) (env.set i (some (DV.d x))) := by
  refine ⟨by rw [List.length_set, List.length_set]; exact r.len, fun j w q => ?_, fun j k xs ys a q1 q2 s1 s2 => ?_, r.tabs⟩
  · rcases set_some_get q with ⟨rfl, e⟩ | ⟨hj, e⟩
    · cases e
      exact ⟨v, List.getElem?_set_self hi, h⟩
    · obtain ⟨y, hy, rv⟩ := r.at_ j w e
      exact ⟨y, by rw [List.getElem?_set_ne (Ne.symm hj)]; exact hy, rv⟩
  · rcases set_some_get q1 with ⟨_, e⟩ | ⟨hj, e1⟩
    · cases e
    · rcases set_some_get q2 with ⟨_, e⟩ | ⟨hk, e2⟩
      · cases e
      · rw [List.getElem?_set_ne (Ne.symm hj)] at s1
        rw [List.getElem?_set_ne (Ne.symm hk)] at s2
        exact r.inj j k xs ys a e1 e2 s1 s2
theorem own_setd {i : Nat} {v : V} {x : PyData} {b : Addr} (h : OwnA (env.set i (some (DV.d x))) (σ.set i (some v)) b) : OwnA env σ b := by
  obtain ⟨j, xs, h1, h2⟩ := h
  rcases set_some_get h1 with ⟨_, e⟩ | ⟨hj, e⟩
  · cases e
  · rw [List.getElem?_set_ne (Ne.symm hj)] at h2
    exact ⟨j, xs, e, h2⟩
/-! ### the slots of a comprehension's own names -/
theorem wipeD_some {e : DEnv} {i : Nat} {x : DV} : ∀ {vs : List Nat}, (wipeD e vs)[i]? = some (some x) → e[i]? = some (some x) ∧ i ∉ vs
  | [], h => ⟨h, by simp⟩
  | v :: vs, h => by
    rcases set_some_get (show ((wipeD e vs).set v none)[i]? = some (some x) from h) with ⟨_, e⟩ | ⟨hj, e1⟩
    · cases e
    · obtain ⟨h1, h2⟩ := wipeD_some e1
      exact ⟨h1, by simp [hj, h2]⟩
theorem wipeD_length (e : DEnv) : ∀ vs : List Nat, (wipeD e vs).length = e.length
  | [] => rfl
  | v :: vs => by
    show ((wipeD e vs).set v none).length = _
    rw [List.length_set, wipeD_length e vs]
theorem wipe_ne {σ : L2.St} {i : Nat} : ∀ {vs : List Nat}, i ∉ vs → (wipe σ vs)[i]? = σ[i]?
  | [], _ => rfl
  | v :: vs, h => by
    have h1 : i ≠ v := fun z => h (by simp [z])
    have h2 : i ∉ vs := fun z => h (by simp [z])
    show ((wipe σ vs).set v none)[i]? = _
    rw [List.getElem?_set_ne (Ne.symm h1), wipe_ne h2]
theorem RepE.wipe (r : RepE K TB H σ env) (vs : List Nat) : RepE K TB H (wipe σ vs) (wipeD env vs) := by
  refine ⟨by rw [wipeD_length, wipe_length]; exact r.len, fun j w q => ?_, fun j k xs ys a q1 q2 s1 s2 => ?_, r.tabs⟩
  · obtain ⟨h1, h2⟩ := wipeD_some q
    obtain ⟨y, hy, rv⟩ := r.at_ j w h1
    exact ⟨y, by rw [wipe_ne h2]; exact hy, rv⟩
  · exact r.inj j k xs ys a (wipeD_some q1).1 (wipeD_some q2).1 (wipe_some s1).1 (wipe_some s2).1
theorem own_wipe {vs : List Nat} {b : Addr} (h : OwnA (wipeD env vs) (wipe σ vs) b) : OwnA env σ b := by
  obtain ⟨j, xs, h1, h2⟩ := h
  exact ⟨j, xs, (wipeD_some h1).1, (wipe_some h2).1⟩
theorem wipe_set {i : Nat} {v : Option V} : ∀ {vs : List Nat}, i ∈ vs → ∀ σ : L2.St, wipe (σ.set i v) vs = wipe σ vs
  | [], h, _ => by simp at h
  | w :: vs, h, σ => by
    show (wipe (σ.set i v) vs).set w none = (wipe σ vs).set w none
    by_cases hv : i ∈ vs
    · rw [wipe_set hv]
    · have e : i = w := by simpa [hv] using h
      subst e
      have gen : ∀ (us : List Nat) (τ : L2.St), i ∉ us → wipe (τ.set i v) us = (wipe τ us).set i v := fun us => by
        induction us with
        | nil => intro τ _; rfl
        | cons u us ih =>
          intro τ hu
          have h1 : i ≠ u := fun z => hu (by simp [z])
          have h2 : i ∉ us := fun z => hu (by simp [z])
          show (wipe (τ.set i v) us).set u none = ((wipe τ us).set u none).set i v
          rw [ih τ h2, List.set_comm _ _ h1]
      rw [gen vs σ hv, List.set_set]
theorem unwipe_length (e0 e : DEnv) : ∀ vs : List Nat, (unwipe e0 e vs).length = e.length
  | [] => rfl
  | v :: vs => by
    show ((unwipe e0 e vs).set v _).length = _
    rw [List.length_set, unwipe_length e0 e vs]
theorem unwipe_ne {e0 e : DEnv} {i : Nat} : ∀ {vs : List Nat}, i ∉ vs → (unwipe e0 e vs)[i]? = e[i]?
  | [], _ => rfl
  | v :: vs, h => by
    have h1 : i ≠ v := fun z => h (by simp [z])
    have h2 : i ∉ vs := fun z => h (by simp [z])
    show ((unwipe e0 e vs).set v _)[i]? = _
    rw [List.getElem?_set_ne (Ne.symm h1), unwipe_ne h2]
theorem unwipe_in {e0 e : DEnv} {i : Nat} (hl : e0.length = e.length) : ∀ {vs : List Nat}, i ∈ vs → (unwipe e0 e vs)[i]? = e0[i]?
  | [], h => by simp at h
  | v :: vs, h => by
    show ((unwipe e0 e vs).set v ((e0[v]?).getD none))[i]? = _
    by_cases hv : i = v
    · subst hv
      by_cases hlt : i < e.length
      · have h0 : i < e0.length := by omega
        rw [List.getElem?_set_self (by rw [unwipe_length]; exact hlt), List.getElem?_eq_getElem h0]
        rfl
      · rw [List.getElem?_eq_none (by rw [List.length_set, unwipe_length]; omega), List.getElem?_eq_none (by omega)]
    · rw [List.getElem?_set_ne (Ne.symm hv)]
      exact unwipe_in hl (by simpa [hv] using h)
theorem noOwn_get {e : DEnv} {own : List Nat} (h : noOwn e own = true) {i : Nat} (hi : i ∈ own) {xs : List PyData} : e[i]? ≠ some (some (DV.own xs)) := fun q => by
  unfold noOwn at h
  have z := List.all_eq_true.mp h i hi
  rw [q] at z
  cases z
end
/-! ### targets -/
section
variable {X : Cx} {TB : TL} {W : WEx}
/-- from the slots and names ahead to those behind: only slots of vs -/
structure BR (K : PySem.W.Frag) (TB : TL) (H : Hp) (vs : List Nat) (σ : L2.St) (env : DEnv) (σ' : L2.St) (env' : DEnv) : Prop where
  rep : RepE K TB H σ' env'
  sub : ∀ b, OwnA env' σ' b → OwnA env σ b
  ne : ∀ i, i ∉ vs → σ'[i]? = σ[i]? ∧ env'[i]? = env[i]?
  wp : ∀ own : List Nat, (∀ i ∈ vs, i ∈ own) → wipe σ' own = wipe σ own
theorem BR.refl {K : PySem.W.Frag} {H : Hp} {σ : L2.St} {env : DEnv} (r : RepE K TB H σ env) : BR K TB H [] σ env σ env := ⟨r, fun _ h => h, fun _ _ => ⟨rfl, rfl⟩, fun _ _ => rfl⟩
theorem BR.trans {K : PySem.W.Frag} {H : Hp} {vs ws : List Nat} {σ σ1 σ2 : L2.St} {env env1 env2 : DEnv} (a : BR K TB H vs σ env σ1 env1) (b : BR K TB H ws σ1 env1 σ2 env2) : BR K TB H (vs ++ ws) σ env σ2 env2 :=
  ⟨b.rep, fun c h => a.sub c (b.sub c h), fun i h => by
    have h1 := a.ne i fun z => h (List.mem_append_left _ z)
    have h2 := b.ne i fun z => h (List.mem_append_right _ z)
    exact ⟨h2.1.trans h1.1, h2.2.trans h1.2⟩, fun own h => (b.wp own fun i z => h i (List.mem_append_right _ z)).trans (a.wp own fun i z => h i (List.mem_append_left _ z))⟩
def SoG (X : Cx) (TB : TL) (tg : Expr) (gT : Tg) : Prop := ∃ g : TG, PG X tg g ∧ ∀ (σ : L2.St) (H : Hp) (env env' : DEnv) (v : V) (d : PyData), RepE X.K TB H σ env → Fz X.K H v d → bindT gT d env = some env' → ∀ Q : L2.St → Hp → Prop, (∀ σ', BR X.K TB H (tgs gT) σ env σ' env' → Q σ' H) → g v σ H Q
def SoGs (X : Cx) (TB : TL) (tg : List Expr) (gT : Tgs) : Prop := ∃ g : TGs, PGs X tg g ∧ ∀ (σ : L2.St) (H : Hp) (env env' : DEnv) (v : List V) (d : List PyData), RepE X.K TB H σ env → FzAll X.K H v d → bindTs gT d env = some env' → ∀ Q : L2.St → Hp → Prop, (∀ σ', BR X.K TB H (tgss gT) σ env σ' env' → Q σ' H) → g v σ H Q
theorem so_gname {i : Nat} {x : Str} {pos : Pos} (hN : X.N.Nodup) (hi : X.N[i]? = some x) (hx : Loc X.env.scope x) (hf : X.fn x = true ∨ X.env.scope.names.lookup x = some .local) : SoG X TB (.Name x pos) (.name i) := by
  refine ⟨_, pg_name hN hi hx hf, fun σ H env env' v d r h q Q k => ?_⟩
  simp only [bindT] at q
  split at q
  case isFalse => cases q
  rename_i hlt0
  have hlt : i < σ.length := by
    rw [← r.len]
    exact hlt0
  cases q
  refine k _ ⟨r.setd hlt h, fun b z => own_setd z, fun j hj => ?_, fun own ho => wipe_set (ho i (by simp [tgs])) σ⟩
  have hj' : j ≠ i := by simpa [tgs] using hj
  exact ⟨List.getElem?_set_ne (Ne.symm hj'), List.getElem?_set_ne (Ne.symm hj')⟩
theorem so_gnil : SoGs X TB [] .nil := by
  refine ⟨_, pgs_nil, fun σ H env env' v d r h q Q k => ?_⟩
  cases d with
  | nil =>
    cases h
    cases q
    exact ⟨rfl, k σ (BR.refl r)⟩
  | cons _ _ => cases q
theorem so_gcons {e : Expr} {es : List Expr} {g : Tg} {gs : Tgs} (hs : (assignEach (e :: es) X.env).map (·.2) = assign e X.env :: (assignEach es X.env).map (·.2)) (h1 : SoG X TB e g) (h2 : SoGs X TB es gs) : SoGs X TB (e :: es) (.cons g gs) := by
  obtain ⟨t, p, s⟩ := h1
  obtain ⟨ts, ps, ss⟩ := h2
  refine ⟨_, pgs_cons p ps hs, fun σ H env env' v d r h q Q k => ?_⟩
  cases d with
  | nil => cases q
  | cons x xs =>
    cases h with
    | cons ha hr =>
      simp only [bindTs] at q
      split at q
      · rename_i e1 he
        refine ⟨_, _, rfl, s σ H env e1 _ _ r ha he _ fun σ1 b1 => ?_⟩
        exact ss σ1 H e1 env' _ _ b1.rep hr q _ fun σ2 b2 => k σ2 (b1.trans b2)
      · cases q
theorem so_gtup {es : List Expr} {n : Nat} {gs : Tgs} {pos : Pos} (hc : X.calm = true) (hst : (assignEach es X.env).findIdx? (·.1) = none) (hn : ∀ xs e e', bindTs gs xs e = some e' → xs.length = (assignEach es X.env).length) (h : SoGs X TB es gs) : SoG X TB (.Tuple es n pos) (.tup gs) := by
  obtain ⟨t, p, s⟩ := h
  refine ⟨_, pg_tup hc p rfl hst, fun σ H env env' v d r h q Q k => ?_⟩
  cases d <;> simp only [bindT, reduceCtorEq] at q
  cases h with
  | tup hs al => exact ⟨_, _, rfl, hs, by rw [al.length]; exact hn _ _ _ q, s σ H env env' _ _ r al q Q k⟩
end
end Wd
/-! Wd 10: what is walked; comprehensions. -/
namespace Wd
open PySem PySem.Spec PyProof.Rows L2
section
variable {X : Cx} {TB : TL} {W : WEx}
/-- an iterator that yields these data, whatever else happens -/
def ItD (K : PySem.W.Frag) (J : It) (H1 : Hp) (xs : List PyData) : Prop := ∀ H2, Stay H1 H2 → ∀ i : Nat, (∀ d, xs[i]? = some d → J.go i H2 ∧ ∀ x H3, J.yld i H2 x H3 → (H3 = H2 ∨ ∃ p o, H2 p = none ∧ H3 = upd H2 p o) ∧ Fz K H3 x d) ∧ (xs[i]? = none → J.stop i H2)
def SoI (X : Cx) (TB : TL) (W : WEx) (tg it : Expr) (f : DEnv → R (List PyData)) : Prop := ∃ wi : TI, PI X tg it wi ∧ Snd X.K TB W wi f (fun _ H' _ _ J xs => ItD X.K J H' xs)
theorem stay_sqL {K : PySem.W.Frag} {H H' : Hp} {a : Addr} {o : Obj} {vs : List V} (st : Stay H H') (h : H a = some (.frz o (.lst vs))) : SqL K H' a vs := .inl (.inr ⟨o, st.2 _ _ _ h⟩)
/-- a locked list, or one of the module's -/
theorem fz_list {K : PySem.W.Frag} {H : Hp} {v : V} {xs : List PyData} (h : Fz K H v (.list xs)) : ∃ a vs, v = .ref a ∧ FzAll K H vs xs ∧ ∀ H', Stay H H' → SqL K H' a vs := by
  cases h with
  | lst h al => exact ⟨_, _, rfl, al, fun H' st => stay_sqL st h⟩
  | lstK h1 h2 h3 h4 h5 h6 al => exact ⟨_, _, rfl, al, fun H' _ => .inr ⟨_, _, _, h1, h2, h3, h4, h5, h6⟩⟩
theorem fz_tup {K : PySem.W.Frag} {H : Hp} {v : V} {xs : List PyData} (h : Fz K H v (.tuple xs)) : ∃ a vs, v = .ref a ∧ FzAll K H vs xs ∧ ∀ H', Stay H H' → SqT K H' a vs := by
  cases h with
  | tup h al => exact ⟨_, _, rfl, al, fun H' st => st.sqT h⟩
theorem get_len {K : PySem.W.Frag} {H : Hp} {vs : List V} {xs : List PyData} (al : FzAll K H vs xs) {i : Nat} (h : xs[i]? = none) : vs.length ≤ i := by
  rw [al.length]
  exact List.getElem?_eq_none_iff.mp h
theorem itd_list {K : PySem.W.Frag} {H : Hp} {a : Addr} {vs : List V} {xs : List PyData} (al : FzAll K H vs xs) (s : ∀ H', Stay H H' → SqL K H' a vs) : ItD K (Itl K a) H xs := by
  intro H2 st i
  refine ⟨fun d hd => ?_, fun hn => ⟨vs, s H2 st, get_len al hn⟩⟩
  obtain ⟨v, hv, fv⟩ := al.get hd
  refine ⟨⟨vs, v, s H2 st, hv⟩, fun x H3 y => ?_⟩
  obtain ⟨rfl, y⟩ := y
  have e := y vs (s _ st)
  rw [hv] at e
  cases e
  exact ⟨.inl rfl, Fz.stay st fv⟩
theorem itd_tup {K : PySem.W.Frag} {H : Hp} {a : Addr} {vs : List V} {xs : List PyData} (al : FzAll K H vs xs) (s : ∀ H', Stay H H' → SqT K H' a vs) : ItD K (Itt K a) H xs := by
  intro H2 st i
  refine ⟨fun d hd => ?_, fun hn => ⟨vs, s H2 st, get_len al hn⟩⟩
  obtain ⟨v, hv, fv⟩ := al.get hd
  refine ⟨⟨vs, v, s H2 st, hv⟩, fun x H3 y => ?_⟩
  obtain ⟨rfl, y⟩ := y
  have e := y vs (s _ st)
  rw [hv] at e
  cases e
  exact ⟨.inl rfl, Fz.stay st fv⟩
theorem itd_str {K : PySem.W.Frag} {H : Hp} (z : Str) : ItD K (Its z) H (z.cps.toList.map fun c => .str ⟨#[c]⟩) := by
  intro H2 st i
  refine ⟨fun d hd => ?_, fun hn => ?_⟩
  · rw [List.getElem?_map, Option.map_eq_some_iff] at hd
    obtain ⟨c, hc, rfl⟩ := hd
    have hc' : z.cps[i]? = some c := by
      rw [← Array.getElem?_toList]
      exact hc
    refine ⟨(Array.getElem?_eq_some_iff.mp hc').1, fun x H3 y => ?_⟩
    obtain ⟨rfl, c', h', rfl⟩ := y
    rw [hc'] at h'
    cases h'
    exact ⟨.inl rfl, .str _⟩
  · have h := List.getElem?_eq_none_iff.mp hn
    rw [List.length_map, Array.length_toList] at h
    exact h
theorem itd_range {K : PySem.W.Frag} {H : Hp} (lo : Int) (n : Nat) : ItD K (Itr lo n) H (rangeD lo n) := by
  intro H2 st i
  unfold rangeD
  refine ⟨fun d hd => ?_, fun hn => ?_⟩
  · rw [List.getElem?_map, Option.map_eq_some_iff] at hd
    obtain ⟨c, hc, rfl⟩ := hd
    obtain ⟨hlt0, hce⟩ := List.getElem?_eq_some_iff.mp hc
    have hlt : i < n := by simpa using hlt0
    have hce' : i = c := by simpa using hce
    subst hce'
    refine ⟨hlt, fun x H3 y => ?_⟩
    obtain ⟨rfl, rfl⟩ := y
    exact ⟨.inl rfl, .int _⟩
  · have h := List.getElem?_eq_none_iff.mp hn
    rw [List.length_map, List.length_range] at h
    exact h
theorem enumD_get : ∀ (xs : List PyData) (k i : Nat), (enumD k xs)[i]? = (xs[i]?).map fun x => .tuple [.int ((k + i : Nat) : Int), x]
  | [], k, i => by simp [enumD]
  | x :: r, k, 0 => by simp [enumD]
  | x :: r, k, i + 1 => by
    show (enumD (k + 1) r)[i]? = _
    rw [enumD_get r (k + 1) i, List.getElem?_cons_succ]
    have e : k + 1 + i = k + (i + 1) := by omega
    rw [e]
theorem itd_enum {K : PySem.W.Frag} {H : Hp} {a : Addr} {vs : List V} {xs : List PyData} (al : FzAll K H vs xs) (s : ∀ H', Stay H H' → SqL K H' a vs) : ItD K (Ite K a) H (enumD 0 xs) := by
  intro H2 st i
  rw [enumD_get]
  refine ⟨fun d hd => ?_, fun hn => ⟨vs, s H2 st, get_len al (by simpa using hn)⟩⟩
  rw [Option.map_eq_some_iff] at hd
  obtain ⟨e, he, rfl⟩ := hd
  obtain ⟨v, hv, fv⟩ := al.get he
  refine ⟨⟨vs, v, s H2 st, hv⟩, fun x H3 y => ?_⟩
  obtain ⟨T, u, rfl, n, rfl, y⟩ := y
  have e1 := y vs (s _ st)
  rw [hv] at e1
  cases e1
  refine ⟨.inr ⟨T, _, n, rfl⟩, .tup (.inl (.inl upd_same)) (.cons ?_ (.cons (Fz.stay (st.trans (stay_new n)) fv) .nil))⟩
  rw [Nat.zero_add]
  exact .int _
theorem zip_get {α β γ : Type} {f : α → β → γ} {xs : List α} {ys : List β} {i : Nat} {d : γ} (h : (List.zipWith f xs ys)[i]? = some d) : ∃ x y, xs[i]? = some x ∧ ys[i]? = some y ∧ d = f x y := by
  rw [List.getElem?_zipWith] at h
  cases hx : xs[i]? with
  | none => rw [hx] at h; cases h
  | some x =>
    cases hy : ys[i]? with
    | none => rw [hx, hy] at h; cases h
    | some y =>
      rw [hx, hy] at h
      cases h
      exact ⟨x, y, rfl, rfl, rfl⟩
theorem zip_none {α β γ : Type} {f : α → β → γ} {xs : List α} {ys : List β} {i : Nat} (h : (List.zipWith f xs ys)[i]? = none) : xs.length ≤ i ∨ ys.length ≤ i := by
  have := List.getElem?_eq_none_iff.mp h
  rw [List.length_zipWith] at this
  omega
theorem itd_zip {K : PySem.W.Frag} {H : Hp} {a b : Addr} {vs ws : List V} {xs ys : List PyData} (al : FzAll K H vs xs) (s : ∀ H', Stay H H' → SqL K H' a vs) (bl : FzAll K H ws ys) (t : ∀ H', Stay H H' → SqL K H' b ws) : ItD K (Itz K a b) H (List.zipWith (fun u v => .tuple [u, v]) xs ys) := by
  intro H2 st i
  refine ⟨fun d hd => ?_, fun hn => ⟨vs, ws, s H2 st, t H2 st, by rw [al.length, bl.length]; exact zip_none hn⟩⟩
  obtain ⟨x, y, hx, hy, rfl⟩ := zip_get hd
  obtain ⟨v, hv, fv⟩ := al.get hx
  obtain ⟨w, hw, fw⟩ := bl.get hy
  refine ⟨⟨vs, ws, v, w, s H2 st, t H2 st, hv, hw⟩, fun z H3 q => ?_⟩
  obtain ⟨T, v', w', rfl, n, rfl, q1, q2⟩ := q
  have e1 := q1 vs (s _ st)
  rw [hv] at e1
  cases e1
  have e2 := q2 ws (t _ st)
  rw [hw] at e2
  cases e2
  exact ⟨.inr ⟨T, _, n, rfl⟩, .tup (.inl (.inl upd_same)) (.cons (Fz.stay (st.trans (stay_new n)) fv) (.cons (Fz.stay (st.trans (stay_new n)) fw) .nil))⟩
theorem itd_zipT {K : PySem.W.Frag} {H : Hp} {a b : Addr} {vs ws : List V} {xs ys : List PyData} (al : FzAll K H vs xs) (s : ∀ H', Stay H H' → SqT K H' a vs) (bl : FzAll K H ws ys) (t : ∀ H', Stay H H' → SqT K H' b ws) : ItD K (RZ.ItzT K a b) H (List.zipWith (fun u v => .tuple [u, v]) xs ys) := by
  intro H2 st i
  refine ⟨fun d hd => ?_, fun hn => ⟨vs, ws, s H2 st, t H2 st, by rw [al.length, bl.length]; exact zip_none hn⟩⟩
  obtain ⟨x, y, hx, hy, rfl⟩ := zip_get hd
  obtain ⟨v, hv, fv⟩ := al.get hx
  obtain ⟨w, hw, fw⟩ := bl.get hy
  refine ⟨⟨vs, ws, v, w, s H2 st, t H2 st, hv, hw⟩, fun z H3 q => ?_⟩
  obtain ⟨T, v', w', rfl, n, rfl, q1, q2⟩ := q
  have e1 := q1 vs (s _ st)
  rw [hv] at e1
  cases e1
  have e2 := q2 ws (t _ st)
  rw [hw] at e2
  cases e2
  exact ⟨.inr ⟨T, _, n, rfl⟩, .tup (.inl (.inl upd_same)) (.cons (Fz.stay (st.trans (stay_new n)) fv) (.cons (Fz.stay (st.trans (stay_new n)) fw) .nil))⟩
theorem PI.or {tg it : Expr} {w1 w2 : TI} (h1 : PI X tg it w1) (h2 : PI X tg it w2) : PI X tg it (fun σ H R => w1 σ H R ∨ w2 σ H R) :=
  ⟨fun pins s σ H R I h => h.elim (fun q => h1.run pins s σ H R I q) fun q => h2.run pins s σ H R I q⟩
section
variable {tg e : Expr} {f : DEnv → R PV}
theorem so_data (he : SoE X TB W e f) : SoI X TB W tg e (fun e => (f e).bind fun p e1 => match frz p e1 with
    | some (x, e2) => lift1 (items x) e2
    | none => .bad) := by
  obtain ⟨t, p, s⟩ := he
  refine ⟨_, PI.or (pi_list (pe_gf p)) (PI.or (pi_tup (pe_gf p)) (pi_str (pe_gf p))), fun σ H env re => ?_⟩
  have s0 := s σ H env re
  dsimp only
  cases hf : f env with
  | bad => exact sa_bad
  | exc k =>
    rw [hf] at s0
    exact ⟨fun _ _ q => (nomatch q), fun k' q hw R => by cases q; exact .inl (s0.2 k rfl hw _)⟩
  | ok pv env1 =>
    rw [hf] at s0
    simp only [R.bind_ok]
    cases hz : frz pv env1 with
    | none => exact sa_bad
    | some w =>
      obtain ⟨x, env2⟩ := w
      dsimp only
      refine lift1_sa fun xs hxs => ?_
      refine sa_val fun R k => ?_
      cases x <;> simp only [items, reduceCtorEq] at hxs
      · cases hxs
        rename_i z
        refine .inr (.inr (s0.1 pv env1 rfl _ fun v H1 e1 r1 => frz_gf e1 r1 hz fun H2 e2 _ fz => ?_))
        cases fz
        exact ⟨z, rfl, k _ H2 e2 (itd_str z)⟩
      · cases hxs
        refine .inl (s0.1 pv env1 rfl _ fun v H1 e1 r1 => frz_gf e1 r1 hz fun H2 e2 _ fz => ?_)
        obtain ⟨a, vs, rfl, al, sq⟩ := fz_list fz
        exact ⟨a, rfl, ⟨vs, sq _ (Stay.refl _)⟩, k _ H2 e2 (itd_list al sq)⟩
      · cases hxs
        refine .inr (.inl (s0.1 pv env1 rfl _ fun v H1 e1 r1 => frz_gf e1 r1 hz fun H2 e2 _ fz => ?_))
        obtain ⟨a, vs, rfl, al, sq⟩ := fz_tup fz
        exact ⟨a, rfl, ⟨vs, sq _ (Stay.refl _)⟩, k _ H2 e2 (itd_tup al sq)⟩
theorem small62_iff {i : Int} (h : small62 i = true) : -(2 ^ 62) ≤ i ∧ i < 2 ^ 62 := by
  simpa [small62] using h
theorem so_rng1 {p pos : Pos} (hg : Gl X "range") (hm : X.mg "range" = none) (hs : starEach [e] X.env = [(false, eval e X.env)]) (he : SoE X TB W e f) : SoI X TB W tg (.Call (.Name "range" p) [e] [] pos) (fun e => (f e).bind fun p e1 => match res p e1 with
    | some (.int n) => if small62 n then .ok (rangeD 0 n.toNat) e1 else .bad
    | _ => .bad) := by
  obtain ⟨t, pe, s⟩ := he
  refine ⟨_, pi_range1 hg hm (pa_cons pe pa_nil hs) hs, fun σ H env re => ?_⟩
  show SndAt X.K TB W σ H env (fun R => t σ H fun x H1 => ∃ j : Int, [x] = [V.int j] ∧ -(2 ^ 62) ≤ j ∧ j < 2 ^ 62 ∧ R (Itr 0 j.toNat) H1) _ _
  refine sa_bind (s σ H env re) fun x p H1 env1 e1 r1 => ?_
  split
  · rename_i n hn
    split
    · rename_i h
      cases (res_rd e1 r1 hn).int
      exact sa_val fun R k => ⟨n, rfl, (small62_iff h).1, (small62_iff h).2, k _ H1 e1 (itd_range 0 _)⟩
    · exact sa_bad
  · exact sa_bad
theorem so_rng2 {e2 : Expr} {f2 : DEnv → R PV} {p pos : Pos} (hg : Gl X "range") (hm : X.mg "range" = none) (hs : starEach [e, e2] X.env = [(false, eval e X.env), (false, eval e2 X.env)]) (hs2 : starEach [e2] X.env = [(false, eval e2 X.env)]) (he : SoE X TB W e f) (he2 : SoE X TB W e2 f2) : SoI X TB W tg (.Call (.Name "range" p) [e, e2] [] pos) (fun e => (f e).bind fun p e1 => (f2 e1).bind fun q e2 => match res p e2, res q e2 with
    | some (.int n), some (.int m) => if small62 n && small62 m then .ok (rangeD n (m - n).toNat) e2 else .bad
    | _, _ => .bad) := by
  obtain ⟨t, pe, s⟩ := he
  obtain ⟨t2, pe2, s2⟩ := he2
  refine ⟨_, pi_range2 hg hm (pa_cons pe (pa_cons pe2 pa_nil hs2) (by rw [hs, hs2])) hs hs2, fun σ H env re => ?_⟩
  show SndAt X.K TB W σ H env (fun R => t σ H fun x H1 => t2 σ H1 fun y H2 => ∃ i j : Int, [x, y] = [V.int i, V.int j] ∧ (-(2 ^ 62) ≤ i ∧ i < 2 ^ 62 ∧ -(2 ^ 62) ≤ j ∧ j < 2 ^ 62) ∧ R (Itr i (j - i).toNat) H2) _ _
  refine sa_bind (s σ H env re) fun x p H1 env1 e1 r1 => ?_
  refine sa_bind (s2.at e1) fun y q H2 env2 e2 ⟨e12, r2⟩ => ?_
  split
  · rename_i n m hn hm'
    split
    · rename_i h
      rw [Bool.and_eq_true] at h
      cases (res_rd e2 (r1.later e1 e12) hn).int
      cases (res_rd e2 (r2.whole e1) hm').int
      exact sa_val fun R k => ⟨n, m, rfl, ⟨(small62_iff h.1).1, (small62_iff h.1).2, (small62_iff h.2).1, (small62_iff h.2).2⟩, k _ H2 e2 (itd_range n _)⟩
    · exact sa_bad
  · exact sa_bad
theorem so_enum {fs : DEnv → R (List PyData)} {p pos tpos : Pos} {elts : List Expr} {kk : Nat} (hg : Gl X "enumerate") (hm : X.mg "enumerate" = none) (hs : starEach [e] X.env = [(false, eval e X.env)]) (ha : SoA X TB W [e] fs) : SoI X TB W (.Tuple elts kk tpos) (.Call (.Name "enumerate" p) [e] [] pos) (fun e => (fs e).bind fun xs e1 => lift1 (enumOf xs) e1) := by
  obtain ⟨t, pa, s⟩ := ha
  refine ⟨_, pi_enum hg hm pa hs, fun σ H env re => ?_⟩
  show SndAt X.K TB W σ H env (fun R => t σ H fun vs H1 => ∃ a xs, vs = [V.ref a] ∧ SqL X.K H1 a xs ∧ R (Ite X.K a) H1) _ _
  refine sa_bind (s σ H env re) fun vs xs H1 env1 e1 r1 => ?_
  refine lift1_sa fun ys hy => ?_
  unfold enumOf at hy
  split at hy
  · cases hy
    cases r1 with
    | cons h r =>
      cases r
      obtain ⟨a, ws, rfl, al, sq⟩ := fz_list h
      exact sa_val fun R k => ⟨a, ws, rfl, sq _ (Stay.refl _), k _ H1 e1 (itd_enum al sq)⟩
  · cases hy
theorem so_zip {e2 : Expr} {fs : DEnv → R (List PyData)} {p pos tpos : Pos} {elts : List Expr} {kk : Nat} (hg : Gl X "zip") (hm : X.mg "zip" = none) (hs : starEach [e, e2] X.env = (false, eval e X.env) :: starEach [e2] X.env) (hpl : (backTo pos (starEach [e2] X.env)).any (·.1) = false) (ha : SoA X TB W [e, e2] fs) : SoI X TB W (.Tuple elts kk tpos) (.Call (.Name "zip" p) [e, e2] [] pos) (fun e => (fs e).bind fun xs e1 => lift1 (zipOf xs) e1) := by
  obtain ⟨t, pa, s⟩ := ha
  refine ⟨_, RZ.pi_zipA hg hm pa hs hpl, fun σ H env re => ?_⟩
  show SndAt X.K TB W σ H env (fun R => t σ H fun vs H1 => ∃ a b xs ys, vs = [V.ref a, V.ref b] ∧ ((SqL X.K H1 a xs ∧ SqL X.K H1 b ys ∧ R (Itz X.K a b) H1) ∨ (SqT X.K H1 a xs ∧ SqT X.K H1 b ys ∧ R (RZ.ItzT X.K a b) H1))) _ _
  refine sa_bind (s σ H env re) fun vs xs H1 env1 e1 r1 => ?_
  refine lift1_sa fun ys hy => ?_
  unfold zipOf at hy
  split at hy
  · cases hy
    cases r1 with
    | cons h r =>
      cases r with
      | cons h2 r =>
        cases r
        obtain ⟨a, ws, rfl, al, sq⟩ := fz_list h
        obtain ⟨b, us, rfl, bl, sq2⟩ := fz_list h2
        exact sa_val fun R k => ⟨a, b, ws, us, rfl, .inl ⟨sq _ (Stay.refl _), sq2 _ (Stay.refl _), k _ H1 e1 (itd_zip al sq bl sq2)⟩⟩
  · cases hy
    cases r1 with
    | cons h r =>
      cases r with
      | cons h2 r =>
        cases r
        obtain ⟨a, ws, rfl, al, sq⟩ := fz_tup h
        obtain ⟨b, us, rfl, bl, sq2⟩ := fz_tup h2
        exact sa_val fun R k => ⟨a, b, ws, us, rfl, .inr ⟨sq _ (Stay.refl _), sq2 _ (Stay.refl _), k _ H1 e1 (itd_zipT al sq bl sq2)⟩⟩
  · cases hy
end
end
end Wd
/-! Wd 11: comprehensions. -/
namespace Wd
open PySem PySem.Spec PyProof.Rows L2
section
variable {K : PySem.W.Frag} {TB : TL} {W : WEx} {α β : Type}
/-- the reading that the interpreter itself gives -/
def can (K : PySem.W.Frag) (TB : TL) (W : WEx) (f : DEnv → R α) (Rl : Hp → Hp → L2.St → DEnv → β → α → Prop) : L2.St → Hp → (β → Hp → Prop) → Prop := fun σ H Q =>
  ∃ env, RepE K TB H σ env ∧ ((∃ a env', f env = .ok a env' ∧ ∀ b H', EP1 K TB σ H env H' env' → Rl H H' σ env' b a → Q b H') ∨ ∃ k, f env = .exc k ∧ ∀ H', Ext (OwnA env σ) H H' → (∀ b, H' b = none → H b = none) → LamX.Tabs TB H' → W k none H')
theorem can_imp {t : L2.St → Hp → (β → Hp → Prop) → Prop} {f : DEnv → R α} {Rl : Hp → Hp → L2.St → DEnv → β → α → Prop} (h : Snd K TB W t f Rl) {σ : L2.St} {H : Hp} {Q : β → Hp → Prop} (c : can K TB W f Rl σ H Q) : t σ H Q := by
  obtain ⟨env, r, ⟨a, env', e, k⟩ | ⟨k, e, w⟩⟩ := c
  · exact (h σ H env r).1 a env' e Q k
  · exact (h σ H env r).2 k e w Q
abbrev RE (K : PySem.W.Frag) : Hp → Hp → L2.St → DEnv → V → PV → Prop := fun H H' σ env' v pv => PR K H H' σ env' v pv
abbrev RT : Hp → Hp → L2.St → DEnv → Bool → Bool → Prop := fun _ _ _ _ b a => b = a
end
section
variable {X : Cx} {TB : TL} {W : WEx}
theorem SoE.can {e : Expr} {f : DEnv → R PV} (h : SoE X TB W e f) : PE X e (can X.K TB W f (RE X.K)) := by
  obtain ⟨t, p, s⟩ := h
  exact ⟨fun pins s' σ H Q I c => p.run pins s' σ H Q I (can_imp s c)⟩
def SoTs (X : Cx) (TB : TL) (W : WEx) (es : List Expr) (f : DEnv → R Bool) : Prop := ∃ t, PTs X es t ∧ Snd X.K TB W t f RT
theorem so_tsnil : SoTs X TB W [] (fun e => .ok true e) := ⟨_, pts_nil, fun σ H env re => sa_val fun Q k => k true H (EP1.refl re) rfl⟩
theorem so_tsone {c : Expr} {f : DEnv → R Bool} (h : SoT X TB W c f) : SoTs X TB W [c] (fun e => (f e).bind fun b e1 => if b then .ok true e1 else .ok false e1) := by
  obtain ⟨t, p, s⟩ := h
  refine ⟨_, pts_one p, fun σ H env re => ?_⟩
  refine sa_bind (pu := fun x H1 Q => Q x H1) (s σ H env re) fun x t H1 env1 e1 r1 => ?_
  cases r1
  cases x <;> exact sa_ok e1 rfl
theorem SoTs.can {es : List Expr} {f : DEnv → R Bool} (h : SoTs X TB W es f) : PTs X es (can X.K TB W f RT) := by
  obtain ⟨t, p, s⟩ := h
  exact ⟨fun pins s' σ H Q I c => p.run pins s' σ H Q I (can_imp s c)⟩
def canG (K : PySem.W.Frag) (TB : TL) (g : Tg) : TG := fun v σ H Q => ∃ env env' d, RepE K TB H σ env ∧ Fz K H v d ∧ bindT g d env = some env' ∧ ∀ σ', BR K TB H (tgs g) σ env σ' env' → Q σ' H
theorem SoG.can {tg : Expr} {g : Tg} (h : SoG X TB tg g) : PG X tg (canG X.K TB g) := by
  obtain ⟨t, p, s⟩ := h
  refine ⟨fun pins s' σ H v u Q I r c => p.run pins s' σ H v u Q I r ?_⟩
  obtain ⟨env, env', d, re, fz, hb, k⟩ := c
  exact s σ H env env' v d re fz hb Q k
/-- into a comprehension's block and back -/
theorem EP1.unblock {K : PySem.W.Frag} {σ σ2 : L2.St} {H H3 : Hp} {env env1 env3 : DEnv} {own vs : List Nat} (re : RepE K TB H σ env) (br : BR K TB H vs (wipe σ own) (wipeD env own) σ2 env1) (hv : ∀ i ∈ vs, i ∈ own) (no : noOwn env own = true) (e : EP1 K TB σ2 H env1 H3 env3) :
    EP1 K TB σ H env H3 (unwipe env env3 own) := by
  have l2 : σ2.length = σ.length := by
    have := e.rep.len
    have h1 := br.rep.len
    have w : wipe σ2 own = wipe (wipe σ own) own := br.wp own hv
    have q := congrArg List.length w
    rw [wipe_length, wipe_length, wipe_length] at q
    exact q
  have l3 : env3.length = env.length := by rw [e.rep.len, l2, re.len]
  have subO : ∀ b, OwnA env1 σ2 b → OwnA env σ b := fun b z => own_wipe (br.sub b z)
  have st : Stay H H3 := e.stay
  have out : ∀ {i : Nat}, i ∉ own → σ2[i]? = σ[i]? := fun {i} hi => by rw [(br.ne i fun z => hi (hv i z)).1, wipe_ne hi]
  have at3 : ∀ (i : Nat) (v : DV), (unwipe env env3 own)[i]? = some (some v) → (i ∈ own ∧ env[i]? = some (some v)) ∨ (i ∉ own ∧ env3[i]? = some (some v)) := fun i v q => by
    by_cases hi : i ∈ own
    · rw [unwipe_in l3.symm hi] at q
      exact .inl ⟨hi, q⟩
    · rw [unwipe_ne hi] at q
      exact .inr ⟨hi, q⟩
  refine ⟨e.ext.mono subO, ⟨by rw [unwipe_length, l3]; exact re.len, fun i v q => ?_, fun i j xs ys a q1 q2 s1 s2 => ?_, e.rep.tabs⟩, fun b z => ?_, fun i w q => ?_, e.gone, re.own_lst⟩
  · rcases at3 i v q with ⟨hi, q⟩ | ⟨hi, q⟩
    · obtain ⟨x, hx, rv⟩ := re.at_ i v q
      refine ⟨x, hx, ?_⟩
      cases v with
      | d y => exact Fz.stay st rv
      | own ys => exact (noOwn_get no hi q).elim
    · obtain ⟨x, hx, rv⟩ := e.rep.at_ i v q
      exact ⟨x, by rw [← out hi]; exact hx, rv⟩
  · rcases at3 i _ q1 with ⟨hi, q1⟩ | ⟨hi, q1⟩
    · exact (noOwn_get no hi q1).elim
    · rcases at3 j _ q2 with ⟨hj, q2⟩ | ⟨hj, q2⟩
      · exact (noOwn_get no hj q2).elim
      · exact e.rep.inj i j xs ys a q1 q2 (by rw [out hi]; exact s1) (by rw [out hj]; exact s2)
  · obtain ⟨i, xs, q, hs⟩ := z
    rcases at3 i _ q with ⟨hi, q⟩ | ⟨hi, q⟩
    · exact (noOwn_get no hi q).elim
    · exact subO b (e.sub b ⟨i, xs, q, by rw [out hi]; exact hs⟩)
  · by_cases hi : i ∈ own
    · exact ⟨w, by rw [unwipe_in l3.symm hi]; exact q⟩
    · have q1 : env1[i]? = some (some w) := by
        rw [(br.ne i fun z => hi (hv i z)).2]
        have gen : ∀ us : List Nat, i ∉ us → (wipeD env us)[i]? = env[i]? := fun us => by
          induction us with
          | nil => intro _; rfl
          | cons u us ih =>
            intro hu
            have h1 : i ≠ u := fun z => hu (by simp [z])
            have h2 : i ∉ us := fun z => hu (by simp [z])
            show ((wipeD env us).set u none)[i]? = _
            rw [List.getElem?_set_ne (Ne.symm h1), ih h2]
        rw [gen own hi]
        exact q
      obtain ⟨w', h'⟩ := e.asg i w q1
      exact ⟨w', by rw [unwipe_ne hi]; exact h'⟩
theorem noOwn_unwipe {env env3 : DEnv} {own : List Nat} (hl : env.length = env3.length) (h : noOwn env own = true) : noOwn (unwipe env env3 own) own = true := by
  unfold noOwn at h ⊢
  rw [List.all_eq_true] at h ⊢
  intro i hi
  rw [unwipe_in hl hi]
  exact h i hi
theorem wipe_wipe (σ : L2.St) (own : List Nat) : wipe (wipe σ own) own = wipe σ own := by
  apply List.ext_getElem?
  intro j
  by_cases hj : j ∈ own
  · have hw : ∀ τ : L2.St, (wipe τ own)[j]? = (τ[j]?).map fun _ => none := by
      intro τ
      cases q : (wipe τ own)[j]? with
      | none =>
        have h1 := List.getElem?_eq_none_iff.mp q
        rw [wipe_length] at h1
        rw [List.getElem?_eq_none h1]
        rfl
      | some w =>
        have h1 := (List.getElem?_eq_some_iff.mp q).1
        rw [wipe_length] at h1
        rw [List.getElem?_eq_getElem h1]
        cases w with
        | none => rfl
        | some v => exact ((wipe_some q).2 hj).elim
    rw [hw, hw]
    cases σ[j]? <;> rfl
  · rw [wipe_ne hj]
abbrev noW : WEx := fun _ _ _ => False
/-- a comprehension's reading -/
theorem lc_snd {wi : TI} {fi : DEnv → R (List PyData)} {g : Tg} {ft : DEnv → R Bool} {fe : DEnv → R PV} {own : List Nat} (hg : ∀ i ∈ tgs g, i ∈ own) (hi : Snd X.K TB W wi fi (fun _ H' _ _ J xs => ItD X.K J H' xs)) :
    Snd X.K TB W (tLc wi (canG X.K TB g) (can X.K TB noW ft RT) (tGF (can X.K TB noW fe (RE X.K))) own) (fun e => (fi e).bind fun xs e1 => if noOwn e1 own then (lcGo g own ft (fun e2 => (fe e2).bind fun p e3 => match frz p e3 with
      | some (x, e4) => .ok x e4
      | none => .bad) xs [] e1).bind fun ys e2 => .ok (PV.val (.own ys)) e2 else .bad) (RE X.K) := by
  intro σ H env re
  unfold tLc
  refine sa_bind (hi σ H env re) fun J xs H1 env1 e1 itd => ?_
  split
  case isFalse => exact sa_bad
  rename_i no
  cases hgo : lcGo g own ft (fun e2 => (fe e2).bind fun p e3 => match frz p e3 with
      | some (x, e4) => R.ok x e4
      | none => .bad) xs [] env1 with
  | bad => exact sa_bad
  | exc k =>
    -- a comprehension lets nothing out
    have gen : ∀ (l acc : List PyData) (e : DEnv) (k : Nat), lcGo g own ft (fun e2 => (fe e2).bind fun p e3 => match frz p e3 with
      | some (x, e4) => R.ok x e4
      | none => .bad) l acc e ≠ .exc k := by
      intro l
      induction l with
      | nil => intro acc e k q; cases q
      | cons x r ih =>
        intro acc e k q
        unfold lcGo at q
        split at q
        · cases q
        · cases ht : ft _ with
          | bad => rw [ht] at q; cases q
          | exc _ => rw [ht] at q; cases q
          | ok b e2 =>
            rw [ht] at q
            simp only [noExc, R.bind_ok] at q
            split at q
            · revert q
              cases hq : (fe e2).bind fun p e3 => match frz p e3 with
                | some (x, e4) => R.ok x e4
                | none => .bad with
              | bad => intro q; cases q
              | exc _ => intro q; cases q
              | ok y e3 =>
                intro q
                simp only [noExc, R.bind_ok] at q
                split at q
                · exact ih _ _ _ q
                · cases q
            · exact ih _ _ _ q
    exact (gen _ _ _ _ hgo).elim
  | ok ys env2 =>
    refine sa_val fun Q kk => ?_
    intro D hD
    have hD0 : H D = none := e1.gone D hD
    refine ⟨fun i m H2 => ∃ envi acc vsA, m = xs.length - i ∧ i ≤ xs.length ∧ EP1 X.K TB σ H env H2 envi ∧ Stay H1 H2 ∧ noOwn envi own = true ∧ H2 D = some (.lst vsA) ∧ FzAll X.K H2 vsA acc ∧ lcGo g own ft (fun e2 => (fe e2).bind fun p e3 => match frz p e3 with
      | some (x, e4) => R.ok x e4
      | none => .bad) (xs.drop i) acc envi = .ok ys env2, ⟨xs.length, env1, [], [], by omega, Nat.zero_le _, e1.new hD, stay_new hD, no, upd_same, .nil, by rw [List.drop_zero]; exact hgo⟩, fun i m H2 hW => ?_⟩
    obtain ⟨envi, acc, vsA, rfl, hile, e2, st2, no2, hDl, fa, go⟩ := hW
    obtain ⟨it1, it2⟩ := itd H2 st2 i
    by_cases hlt : i < xs.length
    case neg =>
      have hn : xs[i]? = none := List.getElem?_eq_none_iff.mpr (by omega)
      refine .inl ⟨it2 hn, ?_⟩
      rw [List.drop_eq_nil_of_le (by omega)] at go
      cases go
      exact kk _ H2 e2 ⟨D, vsA, rfl, hDl, fa, hD0⟩
    case pos =>
      obtain ⟨d, hd⟩ : ∃ d, xs[i]? = some d := ⟨xs[i], List.getElem?_eq_getElem hlt⟩
      have hdrop : xs.drop i = d :: xs.drop (i + 1) := by
        rw [List.drop_eq_getElem_cons hlt]
        have := List.getElem?_eq_getElem hlt
        rw [hd] at this
        cases this
        rfl
      rw [hdrop] at go
      unfold lcGo at go
      obtain ⟨itg, ity⟩ := it1 d hd
      refine .inr ⟨itg, fun H' => ∃ envi acc vsA, i + 1 ≤ xs.length ∧ EP1 X.K TB σ H env H' envi ∧ Stay H1 H' ∧ noOwn envi own = true ∧ H' D = some (.lst vsA) ∧ FzAll X.K H' vsA acc ∧ lcGo g own ft (fun e2 => (fe e2).bind fun p e3 => match frz p e3 with
        | some (x, e4) => R.ok x e4
        | none => .bad) (xs.drop (i + 1)) acc envi = .ok ys env2, fun H' ⟨envi, acc, vsA, q⟩ => ⟨xs.length - (i + 1), by omega, envi, acc, vsA, rfl, q⟩, fun x H3 y => ?_⟩
      obtain ⟨hg3, fz⟩ := ity x H3 y
      -- behind the yield
      have e3s : EP1 X.K TB σ H env H3 envi ∧ Stay H2 H3 ∧ H3 D = some (.lst vsA) := by
        rcases hg3 with rfl | ⟨p, o, n, rfl⟩
        · exact ⟨e2, Stay.refl _, hDl⟩
        · exact ⟨e2.new n, stay_new n, by rw [upd_ne (ne_of_none hDl n)]; exact hDl⟩
      obtain ⟨e3, st3, hD3⟩ := e3s
      split at go
      · cases go
      · rename_i env4 hb
        refine ⟨wipeD envi own, env4, d, e3.rep.wipe own, fz, hb, fun σ2 br => ⟨(br.wp own hg).trans (wipe_wipe σ own), ?_⟩⟩
        · -- the test
          have ownD : ∀ {τ : L2.St} {en : DEnv}, (∀ b, OwnA en τ b → OwnA envi σ b) → ¬ OwnA en τ D := fun {τ en} h z => by
            obtain ⟨us, q⟩ := e3.base D (e3.sub D (h D z))
            rw [hD0] at q
            cases q
          have subB : ∀ b, OwnA env4 σ2 b → OwnA envi σ b := fun b z => own_wipe (br.sub b z)
          cases ht : ft env4 with
          | bad => rw [ht] at go; cases go
          | exc _ => rw [ht] at go; cases go
          | ok b env5 =>
            rw [ht] at go
            simp only [noExc, R.bind_ok] at go
            refine ⟨env4, br.rep, .inl ⟨b, env5, ht, fun b' H5 e5 hb' => ?_⟩⟩
            have hb'' : b' = b := hb'
            subst hb''
            have hD5 : H5 D = some (.lst vsA) := e5.ext D _ hD3 (ownD subB) fun _ z => by cases z
            cases b' with
            | false =>
              rw [if_neg Bool.false_ne_true] at go
              dsimp only
              rw [if_neg Bool.false_ne_true]
              have e6 := EP1.unblock e3.rep br hg no2 e5
              refine ⟨unwipe envi env5 own, acc, vsA, hlt, e3.trans e6, st2.trans (st3.trans e6.stay), noOwn_unwipe ?_ no2, hD5, FzAll.stay (st3.trans e6.stay) fa, go⟩
              have := e6.rep.len
              rw [unwipe_length] at this
              rw [this, e3.rep.len]
            | true =>
              rw [if_pos rfl] at go
              dsimp only
              rw [if_pos rfl]
              revert go
              cases hq : fe env5 with
              | bad => intro go; cases go
              | exc _ => intro go; cases go
              | ok pv env6 =>
                simp only [R.bind_ok]
                cases hz : frz pv env6 with
                | none => intro go; cases go
                | some w =>
                  obtain ⟨z, env7⟩ := w
                  intro go
                  simp only [noExc, R.bind_ok] at go
                  refine ⟨env5, e5.rep, .inl ⟨pv, env6, hq, fun v H6 e6 r6 => frz_gf e6 r6 hz fun H7 e7 st7 fz7 => ?_⟩⟩
                  have e57 : EP1 X.K TB σ2 H3 env4 H7 env7 := e5.trans e7
                  have hD7 : H7 D = some (.lst vsA) := e57.ext D _ hD3 (ownD subB) fun _ z => by cases z
                  split at go
                  case isFalse => cases go
                  rename_i hz2
                  have e8 := EP1.unblock e3.rep br hg no2 e57
                  have e9 := e3.trans e8
                  have fa7 : FzAll X.K H7 vsA acc := FzAll.stay (st3.trans e8.stay) fa
                  refine ⟨vsA, hD7, by rw [fa7.length]; exact hz2, unwipe envi env7 own, acc ++ [z], vsA ++ [v], hlt, ?_⟩
                  -- the new item laid
                  have ne : ∀ b u, H7 b = some u → (∀ ys, u ≠ .lst ys) → b ≠ D := fun b u q w z => by
                    rw [z, hD7] at q
                    exact w vsA (Option.some.inj q).symm
                  have st8 : Stay H7 (upd H7 D (.lst (vsA ++ [v]))) := ⟨fun b ys q => by rw [upd_ne (ne b _ q fun _ z => by cases z)]; exact q, fun b ob u q => by rw [upd_ne (ne b _ q fun _ z => by cases z)]; exact q⟩
                  have hno : ¬ OwnA (unwipe envi env7 own) σ D := fun z => by
                    obtain ⟨us, q⟩ := e9.base D (e9.sub D z)
                    rw [hD0] at q
                    cases q
                  refine ⟨⟨fun b u q hn t => ?_, ⟨e9.rep.len, fun j w q => ?_, e9.rep.inj, tabs_upd e9.rep.tabs (.inr ⟨_, hD7⟩)⟩, e9.sub, e9.asg, fun b q => ?_, e9.base⟩, st2.trans (st3.trans (e8.stay.trans st8)), noOwn_unwipe ?_ no2, upd_same, (FzAll.stay st8 fa7).append (.cons (Fz.stay st8 fz7) .nil), go⟩
                  · rw [upd_ne (fun z => by rw [z, hD0] at q; cases q)]
                    exact e9.ext b u q hn t
                  · obtain ⟨y, hy, rv⟩ := e9.rep.at_ j w q
                    refine ⟨y, hy, ?_⟩
                    cases w with
                    | d y' => exact Fz.stay st8 rv
                    | own us =>
                      obtain ⟨b, ws, rfl, h1, al'⟩ := rv
                      exact ⟨b, ws, rfl, by rw [upd_ne (fun z => hno (by rw [← z]; exact ⟨j, us, q, hy⟩))]; exact h1, FzAll.stay st8 al'⟩
                  · by_cases hb : b = D
                    · rw [hb, upd_same] at q; cases q
                    · rw [upd_ne hb] at q; exact e9.gone b q
                  · have := e8.rep.len
                    rw [unwipe_length] at this
                    rw [this, e3.rep.len]
end
end Wd
/-! Wd 12: comprehensions as expressions; statements. -/
namespace Wd
open PySem PySem.Spec PyProof.Rows L2
section
variable {X : Cx} {TB : TL} {W : WEx}
/-- the parts of a comprehension, in its block -/
structure LcOk (X : Cx) (TB : TL) (W : WEx) (elt tg iter : Expr) (ifs : List Expr) (scope : Scope) (own : List (Str × Nat)) (g : Tg) (fi : DEnv → R (List PyData)) (ft : DEnv → R Bool) (fe : DEnv → R PV) : Prop where
  ok : BlkOk X.N X.env.scope scope own
  tgo : ∀ i ∈ tgs g, i ∈ own.map (·.2)
  it : SoI X TB W tg iter fi
  hg : ∀ (s : Shared) (H : Hp) (C : Addr) (cl : List (Str × Addr)) (fp : List Addr), SoG (X.blk s H scope (compEnvC scope cl C X.env) fp) TB tg g
  ht : ∀ (s : Shared) (H : Hp) (C : Addr) (cl : List (Str × Addr)) (fp : List Addr), SoTs (X.blk s H scope (compEnvC scope cl C X.env) fp) TB noW ifs ft
  he : ∀ (s : Shared) (H : Hp) (C : Addr) (cl : List (Str × Addr)) (fp : List Addr), SoE (X.blk s H scope (compEnvC scope cl C X.env) fp) TB noW elt fe
  fs : ∀ x, foldedSetIterable iter X.env x = pure x
abbrev lcF (g : Tg) (own : List Nat) (fi : DEnv → R (List PyData)) (ft : DEnv → R Bool) (fe : DEnv → R PV) : DEnv → R PV := fun e => (fi e).bind fun xs e1 => if noOwn e1 own then (lcGo g own ft (fun e2 => (fe e2).bind fun p e3 => match frz p e3 with
      | some (x, e4) => .ok x e4
      | none => .bad) xs [] e1).bind fun ys e2 => .ok (PV.val (.own ys)) e2 else .bad
theorem so_lc {elt tg iter : Expr} {ifs : List Expr} {scope : Scope} {own : List (Str × Nat)} {pos : Pos} {g : Tg} {fi : DEnv → R (List PyData)} {ft : DEnv → R Bool} {fe : DEnv → R PV} (hc : X.calm = true) (hN : X.N.Nodup) (L : LcOk X TB W elt tg iter ifs scope own g fi ft fe) :
    SoE X TB W (.ListComp elt [⟨tg, iter, ifs, 0⟩] scope pos) (lcF g (own.map (·.2)) fi ft fe) := by
  obtain ⟨wi, pi, si⟩ := L.it
  exact ⟨_, pe_lc hc hN pi L.ok (g := canG X.K TB g) (tt := can X.K TB noW ft RT) (fun s H C cl fp => (L.hg s H C cl fp).can) (fun s H C cl fp => (L.ht s H C cl fp).can) (fun s H C cl fp => pe_gf (te := can X.K TB noW fe (RE X.K)) (L.he s H C cl fp).can) L.fs, lc_snd L.tgo si⟩
theorem lcF_val {g : Tg} {own : List Nat} {fi : DEnv → R (List PyData)} {ft : DEnv → R Bool} {fe : DEnv → R PV} {e e' : DEnv} {n : Nat} (h : lcF g own fi ft fe e = .ok (.slot n) e') : False := by
  unfold lcF at h
  cases hi : fi e with
  | bad => rw [hi] at h; cases h
  | exc _ => rw [hi] at h; cases h
  | ok xs e1 =>
    rw [hi] at h
    simp only [R.bind_ok] at h
    split at h
    · revert h
      cases lcGo g own ft _ xs [] e1 with
      | bad => intro h; cases h
      | exc _ => intro h; cases h
      | ok ys e2 => intro h; cases h
    · cases h
/-! ### statements -/
/-- in a def's body: H0 the heap at its entry, M the list that it may change -/
structure SI (K : PySem.W.Frag) (TB : TL) (H0 : Hp) (M : Option Addr) (σ : L2.St) (H : Hp) (env : DEnv) : Prop where
  rep : RepE K TB H σ env
  ext : Ext (fun b => M = some b) H0 H
  gone : ∀ b, H b = none → H0 b = none
  fresh : ∀ b, OwnA env σ b → H0 b = none ∨ M = some b
  m : ∀ a, M = some a → σ[0]? = some (some (V.ref a))
def RetV (K : PySem.W.Frag) (H0 H' : Hp) (x : V) : DV → Prop
  | .d y => Fz K H' x y
  | .own ys => ∃ a ws, x = .ref a ∧ H' a = some (.lst ws) ∧ FzAll K H' ws ys ∧ H0 a = none
/-- what is wanted behind a statement, by the interpreter's answer -/
def KS (K : PySem.W.Frag) (TB : TL) (W : WEx) (H0 : Hp) (M : Option Addr) (H : Hp) (D : Ends) : R Fl → Prop
  | .ok .nx env => ∀ σ' H', Stay H H' → SI K TB H0 M σ' H' env → D.nx σ' H'
  | .ok .brk env => ∀ σ' H', Stay H H' → SI K TB H0 M σ' H' env → D.bk σ' H'
  | .ok .ct env => ∀ σ' H', Stay H H' → SI K TB H0 M σ' H' env → D.ct σ' H'
  | .ok (.ret v) env => ∀ x σ' H', SI K TB H0 M σ' H' env → RetV K H0 H' x v → D.rt x H'
  | .exc k => ∀ H', Ext (fun b => M = some b) H0 H' → (∀ b, H' b = none → H0 b = none) → LamX.Tabs TB H' → W k none H'
  | .bad => False
def SndS (K : PySem.W.Frag) (TB : TL) (W : WEx) (H0 : Hp) (M : Option Addr) (t : TS) (f : DEnv → R Fl) : Prop := ∀ (D : Ends) (σ : L2.St) (H : Hp) (env : DEnv), SI K TB H0 M σ H env → KS K TB W H0 M H D (f env) → t D σ H
theorem KS.mono {K : PySem.W.Frag} {TB : TL} {W : WEx} {H0 : Hp} {M : Option Addr} {H H1 : Hp} {D : Ends} (st : Stay H H1) : ∀ {r : R Fl}, KS K TB W H0 M H D r → KS K TB W H0 M H1 D r
  | .ok .nx env, k => fun σ' H' s i => k σ' H' (st.trans s) i
  | .ok .brk env, k => fun σ' H' s i => k σ' H' (st.trans s) i
  | .ok .ct env, k => fun σ' H' s i => k σ' H' (st.trans s) i
  | .ok (.ret v) env, k => k
  | .exc n, k => k
  | .bad, k => k
section
variable {K : PySem.W.Frag} {H0 : Hp} {M : Option Addr}
theorem SI.step {σ : L2.St} {H H' : Hp} {env env' : DEnv} (i : SI K TB H0 M σ H env) (e : EP1 K TB σ H env H' env') : SI K TB H0 M σ H' env' :=
  ⟨e.rep, i.ext.trans e.ext fun c o q z => (i.fresh c z).elim (fun n => by rw [n] at q; cases q) id, fun b q => i.gone b (e.gone b q), fun b z => i.fresh b (e.sub b z), i.m⟩
theorem SI.xc {σ : L2.St} {H H' : Hp} {env : DEnv} (i : SI K TB H0 M σ H env) (e : Ext (OwnA env σ) H H') : Ext (fun b => M = some b) H0 H' := i.ext.trans e fun c o q z => (i.fresh c z).elim (fun n => by rw [n] at q; cases q) id
/-- an expression within a statement -/
theorem use_snd {β α : Type} {t : L2.St → Hp → (β → Hp → Prop) → Prop} {f : DEnv → R α} {Rl : Hp → Hp → L2.St → DEnv → β → α → Prop} (s : Snd K TB W t f Rl) {g : α → DEnv → R Fl} {σ : L2.St} {H : Hp} {env : DEnv} {D : Ends} {Q : β → Hp → Prop} (i : SI K TB H0 M σ H env) (k : KS K TB W H0 M H D ((f env).bind g))
    (h : ∀ a env1 b H1, f env = .ok a env1 → EP1 K TB σ H env H1 env1 → Rl H H1 σ env1 b a → SI K TB H0 M σ H1 env1 → KS K TB W H0 M H1 D (g a env1) → Q b H1) : t σ H Q := by
  obtain ⟨s1, s2⟩ := s σ H env i.rep
  cases hf : f env with
  | bad => rw [hf] at k; exact k.elim
  | exc n =>
    rw [hf] at k
    exact s2 n hf (fun H' x g y => k H' (i.xc x) (fun b q => i.gone b (g b q)) y) Q
  | ok a env1 =>
    rw [hf] at k
    exact s1 a env1 hf Q fun b H1 e r => h a env1 b H1 hf e r (i.step e) (k.mono e.stay)
/-- a name gets a value -/
theorem RepE.setv {H : Hp} {σ : L2.St} {env : DEnv} (r : RepE K TB H σ env) {i : Nat} {x : V} {v : DV} (hi : i < env.length) (h : RV K H x v) (hn : ∀ a ys, x = .ref a → v = .own ys → ¬ OwnA env σ a) : RepE K TB H (σ.set i (some x)) (env.set i (some v)) := by
  refine ⟨by rw [List.length_set, List.length_set]; exact r.len, fun j w q => ?_, fun j k xs ys a q1 q2 s1 s2 => ?_, r.tabs⟩
  · rcases set_some_get q with ⟨rfl, e⟩ | ⟨hj, e⟩
    · cases e
      exact ⟨x, List.getElem?_set_self (by rw [← r.len]; exact hi), h⟩
    · obtain ⟨y, hy, rv⟩ := r.at_ j w e
      exact ⟨y, by rw [List.getElem?_set_ne (Ne.symm hj)]; exact hy, rv⟩
  · rcases set_some_get q1 with ⟨rfl, e1⟩ | ⟨hj, e1⟩
    · rcases set_some_get q2 with ⟨rfl, e2⟩ | ⟨hk, e2⟩
      · rfl
      · rw [List.getElem?_set_ne (Ne.symm hk)] at s2
        rcases set_some_get s1 with ⟨_, z⟩ | ⟨z, _⟩
        · cases z
          exact (hn a xs rfl (Option.some.inj e1) ⟨k, ys, e2, s2⟩).elim
        · exact (z rfl).elim
    · rw [List.getElem?_set_ne (Ne.symm hj)] at s1
      rcases set_some_get q2 with ⟨rfl, e2⟩ | ⟨hk, e2⟩
      · rcases set_some_get s2 with ⟨_, z⟩ | ⟨z, _⟩
        · cases z
          exact (hn a ys rfl (Option.some.inj e2) ⟨j, xs, e1, s1⟩).elim
        · exact (z rfl).elim
      · rw [List.getElem?_set_ne (Ne.symm hk)] at s2
        exact r.inj j k xs ys a e1 e2 s1 s2
theorem SI.setv {H : Hp} {σ : L2.St} {env : DEnv} (s : SI K TB H0 M σ H env) {i : Nat} {x : V} {v : DV} (hi : i < env.length) (hm : i ≠ 0 ∨ M = none) (h : RetV K H0 H x v) (hn : ∀ a ys, x = .ref a → v = .own ys → ¬ OwnA env σ a) : SI K TB H0 M (σ.set i (some x)) H (env.set i (some v)) := by
  have rv : RV K H x v := by
    cases v with
    | d y => exact h
    | own ys =>
      obtain ⟨a, ws, e, h1, al, _⟩ := h
      exact ⟨a, ws, e, h1, al⟩
  refine ⟨s.rep.setv hi rv hn, s.ext, s.gone, fun b z => ?_, fun a e => ?_⟩
  · obtain ⟨j, xs, q1, q2⟩ := z
    rcases set_some_get q1 with ⟨rfl, e⟩ | ⟨hj, e⟩
    · cases e
      obtain ⟨a, ws, rfl, _, _, n⟩ := h
      rcases set_some_get q2 with ⟨_, z⟩ | ⟨z, _⟩
      · cases z
        exact .inl n
      · exact (z rfl).elim
    · rw [List.getElem?_set_ne (Ne.symm hj)] at q2
      exact s.fresh b ⟨j, xs, e, q2⟩
  · rcases hm with h0 | h0
    · rw [List.getElem?_set_ne h0]
      exact s.m a e
    · rw [h0] at e
      cases e
/-- a value just made, for a name -/
theorem pr_ret {σ : L2.St} {H H1 : Hp} {env env1 : DEnv} {x : V} {v : DV} (i : SI K TB H0 M σ H env) (e : EP1 K TB σ H env H1 env1) (h : PR K H H1 σ env1 x (.val v)) : RetV K H0 H1 x v ∧ ∀ a ys, x = .ref a → v = .own ys → ¬ OwnA env1 σ a := by
  cases v with
  | d y => exact ⟨h, fun _ _ _ z => by cases z⟩
  | own ys =>
    obtain ⟨a, ws, rfl, h1, al, n⟩ := h
    refine ⟨⟨a, ws, rfl, h1, al, i.gone a n⟩, fun b zs q _ z => ?_⟩
    cases q
    obtain ⟨us, q⟩ := e.base a (e.sub a z)
    rw [n] at q
    cases q
end
def SoS (X : Cx) (TB : TL) (W : WEx) (H0 : Hp) (M : Option Addr) (st : Stmt) (f : DEnv → R Fl) : Prop := ∃ t, PS X st t ∧ SndS X.K TB W H0 M t f
def SoB (X : Cx) (TB : TL) (W : WEx) (H0 : Hp) (M : Option Addr) (st : List Stmt) (f : DEnv → R Fl) : Prop := ∃ t, PSs X st t ∧ SndS X.K TB W H0 M t f
section
variable {H0 : Hp} {M : Option Addr} {st : Stmt} {sts : List Stmt} {f g : DEnv → R Fl} {fe : DEnv → R PV} {e : Expr} {pos : Pos}
theorem so_bnil : SoB X TB W H0 M [] (fun e => .ok .nx e) := ⟨_, pss_nil, fun D σ H env i k => k σ H (Stay.refl _) i⟩
theorem so_bcons (h1 : SoS X TB W H0 M st f) (h2 : SoB X TB W H0 M sts g) : SoB X TB W H0 M (st :: sts) (fun e => (f e).bind fun fl e1 => match fl with
    | .nx => g e1
    | .ret v => .ok (.ret v) e1
    | .brk => .ok .brk e1
    | .ct => .ok .ct e1) := by
  obtain ⟨t, p, s⟩ := h1
  obtain ⟨u, q, r⟩ := h2
  refine ⟨_, pss_cons p q, fun D σ H env i k => s _ σ H env i ?_⟩
  dsimp only at k
  cases hf : f env with
  | bad => rw [hf] at k; exact k
  | exc n => rw [hf] at k; exact k
  | ok fl env1 =>
    rw [hf] at k
    cases fl with
    | nx => exact fun σ' H' st i' => r D σ' H' env1 i' (KS.mono (r := g env1) st k)
    | ret v => exact k
    | brk => exact k
    | ct => exact k
theorem so_pass : SoS X TB W H0 M (.Pass pos) (fun e => .ok .nx e) := ⟨_, ps_pass, fun D σ H env i k => k σ H (Stay.refl _) i⟩
theorem so_brk : SoS X TB W H0 M (.Break pos) (fun e => .ok .brk e) := ⟨_, ps_break, fun D σ H env i k => k σ H (Stay.refl _) i⟩
theorem so_ct : SoS X TB W H0 M (.Continue pos) (fun e => .ok .ct e) := ⟨_, ps_continue, fun D σ H env i k => k σ H (Stay.refl _) i⟩
theorem so_retn : SoS X TB W H0 M (.Return none pos) (fun e => .ok (.ret (.d .none)) e) := ⟨_, ps_retN, fun D σ H env i k => k .non σ H i .non⟩
theorem so_expr (hs : swapsWith e none pos.line X.env = pure false) (he : SoE X TB W e fe) : SoS X TB W H0 M (.Expr e pos) (fun e => (fe e).bind fun _ e1 => .ok .nx e1) := by
  obtain ⟨t, p, s⟩ := he
  exact ⟨_, ps_expr p hs, fun D σ H env i k => use_snd s i k fun a env1 b H1 hfe e1 r i1 k1 => k1 σ H1 (Stay.refl _) i1⟩
theorem so_ret (he : SoE X TB W e fe) : SoS X TB W H0 M (.Return (some e) pos) (fun e => (fe e).bind fun p e1 => match tak p e1 with
    | some (v, e2) => .ok (.ret v) e2
    | none => .bad) := by
  obtain ⟨t, p, s⟩ := he
  refine ⟨_, ps_ret (pe_gf p), fun D σ H env i k => use_snd s i k fun a env1 b H1 hfe e1 r i1 k1 => ?_⟩
  cases hq : tak a env1 with
  | none => rw [hq] at k1; exact k1.elim
  | some w =>
    obtain ⟨v, env2⟩ := w
    rw [hq] at k1
    exact tak_gf e1 r hq fun H2 e2 _ pr => k1 b σ H2 (i.step e2) (pr_ret i e2 pr).1
theorem so_if {c : Expr} {a b : List Stmt} {fc : DEnv → R Bool} (hc : SoT X TB W c fc) (ha : SoB X TB W H0 M a f) (hb : SoB X TB W H0 M b g) : SoS X TB W H0 M (.If c a b pos) (fun e => (fc e).bind fun t e1 => if t then f e1 else g e1) := by
  obtain ⟨tc, pc, sc⟩ := hc
  obtain ⟨ta, pa, sa⟩ := ha
  obtain ⟨tb, pb, sb⟩ := hb
  refine ⟨_, ps_if pc pa pb, fun D σ H env i k => ?_⟩
  show tc σ H fun b H1 => if b = true then ta D σ H1 else tb D σ H1
  refine use_snd sc i k fun v env1 w H1 hfe e1 r i1 k1 => ?_
  cases r
  cases v with
  | true => exact sa D σ H1 env1 i1 k1
  | false => exact sb D σ H1 env1 i1 k1
/-- x = e -/
theorem so_set {j : Nat} {x : Str} {px : Pos} (hN : X.N.Nodup) (hj : X.N[j]? = some x) (hx : L2.Loc X.env.scope x) (hf : X.fn x = true ∨ X.env.scope.names.lookup x = some .local) (hs : swapsWith e (some (.Name x px)) pos.line X.env = pure false) (hm : j ≠ 0 ∨ M = none) (he : SoE X TB W e fe) :
    SoS X TB W H0 M (.Assign [.Name x px] e pos) (fun e => (fe e).bind fun p e1 => match tak p e1 with
    | some (v, e2) => if j < e2.length then .ok .nx (e2.set j (some v)) else .bad
    | none => .bad) := by
  obtain ⟨t, p, s⟩ := he
  refine ⟨_, ps_set hN hj hx (pe_gf p) hs hf, fun D σ H env i k => ?_⟩
  show t σ H fun v H1 => GF H1 fun H2 => D.nx (σ.set j (some v)) H2
  refine use_snd s i k fun a env1 b H1 hfe e1 r i1 k1 => ?_
  cases hq : tak a env1 with
  | none => rw [hq] at k1; exact k1.elim
  | some w =>
    obtain ⟨v, env2⟩ := w
    rw [hq] at k1
    dsimp only at k1
    split at k1
    · rename_i hlt
      exact tak_gf e1 r hq fun H2 e2 st pr => k1 _ H2 st ((i.step e2).setv hlt hm (pr_ret i e2 pr).1 (pr_ret i e2 pr).2)
    · exact k1.elim
theorem so_setlc {j : Nat} {x : Str} {px spos : Pos} {elt tg iter : Expr} {ifs : List Expr} {scope : Scope} {own : List (Str × Nat)} {g : Tg} {fi : DEnv → R (List PyData)} {ft : DEnv → R Bool} {fe : DEnv → R PV} (hc : X.calm = true) (hN : X.N.Nodup) (hj : X.N[j]? = some x) (hx : X.env.scope.names.lookup x = some .local)
    (hs : swapsWith (.ListComp elt [⟨tg, iter, ifs, 0⟩] scope pos) (some (.Name x px)) spos.line X.env = pure true) (hm : j ≠ 0 ∨ M = none) (L : LcOk X TB W elt tg iter ifs scope own g fi ft fe) :
    SoS X TB W H0 M (.Assign [.Name x px] (.ListComp elt [⟨tg, iter, ifs, 0⟩] scope pos) spos) (fun e => (lcF g (own.map (·.2)) fi ft fe e).bind fun p e1 => match tak p e1 with
    | some (v, e2) => if j < e2.length then .ok .nx (e2.set j (some v)) else .bad
    | none => .bad) := by
  obtain ⟨wi, pi, si⟩ := L.it
  have s := lc_snd (ft := ft) (fe := fe) L.tgo si
  refine ⟨_, ps_setLc hc hN hj hx hs pi L.ok (g := canG X.K TB g) (tt := can X.K TB noW ft RT) (fun s H C cl fp => (L.hg s H C cl fp).can) (fun s H C cl fp => (L.ht s H C cl fp).can) (fun s H C cl fp => pe_gf (te := can X.K TB noW fe (RE X.K)) (L.he s H C cl fp).can) L.fs, fun D σ H env i k => ?_⟩
  show tLc wi _ _ _ _ σ H fun v H1 => D.nx (σ.set j (some v)) H1
  refine use_snd s i k fun a env1 b H1 hfe e1 r i1 k1 => ?_
  cases a with
  | slot n => exact (lcF_val hfe).elim
  | val v =>
    simp only [tak] at k1
    split at k1
    · rename_i hlt
      exact k1 _ H1 (Stay.refl _) (i1.setv hlt hm (pr_ret i e1 r).1 (pr_ret i e1 r).2)
    · exact k1.elim
end
end
end Wd
/-! Wd 13: statements, further. -/
namespace Wd
open PySem PySem.Spec PyProof.Rows L2
section
variable {X : Cx} {TB : TL} {W : WEx} {H0 : Hp} {M : Option Addr} {f g : DEnv → R Fl} {fe : DEnv → R PV} {e : Expr} {pos : Pos} {cr : Nat → Addr}
/-- raise K('..') -/
theorem so_rais {t : L2.St → Hp → XK → Prop} {k : Nat} (hc : X.calm = true) (tk : L2N.Takes X (WW cr W)) (hm : L2N.PMk X e t) (ht : ∀ (σ : L2.St) (H : Hp) (Q : XK), Q (.ref (cr k)) none H → t σ H Q) : SoS X TB W H0 M (.Raise (some e) none pos) (fun _ => .exc k) :=
  ⟨_, L2N.ps_raise hc tk hm, fun D σ H env i kk => ht σ H _ ⟨k, rfl, kk H i.ext i.gone i.rep.tabs⟩⟩
/-- a, .. = e -/
theorem so_unp {tg : Expr} {gT : Tg} (hs : swapsWithSole [tg] e pos.line X.env = pure false) (hw : swappedStores [tg] e X.env = pure none) (h1 : (assignEach [tg] X.env).map (·.2) = [assign tg X.env]) (hm : 0 ∉ tgs gT ∨ M = none) (hg : SoG X TB tg gT) (he : SoE X TB W e fe) :
    SoS X TB W H0 M (.Assign [tg] e pos) (fun e => (fe e).bind fun p e1 => match frz p e1 with
    | some (x, e2) => (match bindT gT x e2 with
      | some e3 => .ok .nx e3
      | none => .bad)
    | none => .bad) := by
  obtain ⟨t, p, s⟩ := he
  obtain ⟨gg, pg, sg⟩ := hg
  refine ⟨_, ps_asg (pe_gf p) pg hs hw h1, fun D σ H env i k => ?_⟩
  show t σ H fun v H1 => GF H1 fun H2 => gg v σ H2 D.nx
  refine use_snd s i k fun a env1 b H1 hfe e1 r i1 k1 => ?_
  cases hq : frz a env1 with
  | none => rw [hq] at k1; exact k1.elim
  | some w =>
    obtain ⟨v, env2⟩ := w
    rw [hq] at k1
    dsimp only at k1
    cases hb : bindT gT v env2 with
    | none => rw [hb] at k1; exact k1.elim
    | some env3 =>
      rw [hb] at k1
      exact frz_gf e1 r hq fun H2 e2 st fz => sg σ H2 env2 env3 b v e2.rep fz hb _ fun σ' br => k1 σ' H2 st (by
        have i2 := i.step e2
        refine ⟨br.rep, i2.ext, i2.gone, fun c z => i2.fresh c (br.sub c z), fun a e => ?_⟩
        rcases hm with h0 | h0
        · rw [(br.ne 0 h0).1]
          exact i2.m a e
        · rw [h0] at e
          cases e)
/-! ### a list of a name changes -/
theorem SI.putN {K : PySem.W.Frag} {σ : L2.St} {H : Hp} {env : DEnv} {i : Nat} {a : Addr} {ys zs : List PyData} {vs ws : List V} (s : SI K TB H0 M σ H env) (hi : env[i]? = some (some (DV.own ys))) (hs : σ[i]? = some (some (V.ref a))) (h1 : H a = some (.lst vs)) (al : FzAll K H ws zs) :
    SI K TB H0 M σ (upd H a (.lst ws)) (env.set i (some (DV.own zs))) ∧ Stay H (upd H a (.lst ws)) := by
  have ne : ∀ b u, H b = some u → (∀ ys, u ≠ .lst ys) → b ≠ a := fun b u q w z => by
    rw [z, h1] at q
    exact w vs (Option.some.inj q).symm
  have st : Stay H (upd H a (.lst ws)) := ⟨fun b ys q => by rw [upd_ne (ne b _ q fun _ z => by cases z)]; exact q, fun b ob u q => by rw [upd_ne (ne b _ q fun _ z => by cases z)]; exact q⟩
  obtain ⟨e, _⟩ := (EP1.refl s.rep).putN (H2 := upd H a (.lst ws)) hi hs (fun b o q n t => by rw [upd_ne n]; exact q) (fun b q => by
    by_cases hb : b = a
    · rw [hb, upd_same] at q; cases q
    · rw [upd_ne hb] at q; exact q) (tabs_upd s.rep.tabs (.inr ⟨_, h1⟩)) upd_same (FzAll.stay st al)
  exact ⟨s.step e, st⟩
theorem so_app {j : Nat} {x : Str} {px pa pc : Pos} (hN : X.N[j]? = some x) (hv : Vis X.env.scope x) (hd : (x == ("__debug__" : Str)) = false) (hcd : (x == ("__classdict__" : Str)) = false) (hst : starEach [e] X.env = [(false, eval e X.env)])
    (ht : PE X (.Call (.Attribute (.Name x px) "append" pa) [e] [] pc) (tBM X.K "list" rAppend (tVar j) (tCons (tGF (can X.K TB W fe (RE X.K))) tNil))) : SoS X TB W H0 M (.Expr (.Call (.Attribute (.Name x px) "append" pa) [e] [] pc) pos) (fun e => match e[j]? with
    | some (some (.own _)) => (fe e).bind fun p e1 => (match frz p e1 with
      | some (y, e2) => (match e2[j]? with
        | some (some (.own xs)) => if xs.length < sizeLine then .ok .nx (e2.set j (some (.own (xs ++ [y])))) else .bad
        | _ => .bad)
      | none => .bad)
    | _ => .bad) := by
  refine ⟨_, ps_expr ht rfl, fun D σ H env i k => ?_⟩
  dsimp only at k
  split at k
  case h_2 => exact k.elim
  rename_i ys0 h0
  obtain ⟨y0, hs, a, vs0, rfl, h1, _⟩ := i.rep.at_ j _ h0
  refine ⟨_, hs, .inl ⟨rfl, _, .inl (.inl h1)⟩, ?_⟩
  -- the item
  have s : Snd X.K TB W (can X.K TB W fe (RE X.K)) fe (RE X.K) := fun σ H env re => ⟨fun a env' q Q k => ⟨env, re, .inl ⟨a, env', q, k⟩⟩, fun k q w Q => ⟨env, re, .inr ⟨k, q, w⟩⟩⟩
  refine use_snd s i k fun p env1 b H1 hfe e1 r i1 k1 => ?_
  cases hq : frz p env1 with
  | none => rw [hq] at k1; exact k1.elim
  | some w =>
    obtain ⟨v, env2⟩ := w
    rw [hq] at k1
    dsimp only at k1
    split at k1
    case h_2 => exact k1.elim
    rename_i xs h2
    split at k1
    case isFalse => exact k1.elim
    rename_i hz
    refine frz_gf e1 r hq fun H2 e2 st2 fz => ?_
    have i2 := i.step e2
    obtain ⟨y2, hs2, a2, vs2, rfl, h3, al⟩ := i2.rep.at_ j _ h2
    rw [hs] at hs2
    cases hs2
    exact ⟨a, vs2, b, rfl, rfl, h3, by rw [al.length]; exact hz, k1 _ _ (st2.trans (i2.putN h2 hs h3 (al.append (.cons fz .nil))).2) (i2.putN h2 hs h3 (al.append (.cons fz .nil))).1⟩
theorem so_ext {j : Nat} {x : Str} {px pa pc : Pos} (hN : X.N[j]? = some x) (hv : Vis X.env.scope x) (hd : (x == ("__debug__" : Str)) = false) (hcd : (x == ("__classdict__" : Str)) = false) (hst : starEach [e] X.env = [(false, eval e X.env)])
    (ht : PE X (.Call (.Attribute (.Name x px) "extend" pa) [e] [] pc) (tBM X.K "list" rExtend (tVar j) (tCons (can X.K TB W fe (RE X.K)) tNil))) : SoS X TB W H0 M (.Expr (.Call (.Attribute (.Name x px) "extend" pa) [e] [] pc) pos) (fun e => match e[j]? with
    | some (some (.own _)) => (fe e).bind fun p e1 => (match p with
      | .val (.own ys) => (match e1[j]? with
        | some (some (.own xs)) => if xs.length + ys.length ≤ sizeLine then .ok .nx (e1.set j (some (.own (xs ++ ys)))) else .bad
        | _ => .bad)
      | _ => .bad)
    | _ => .bad) := by
  refine ⟨_, ps_expr ht rfl, fun D σ H env i k => ?_⟩
  dsimp only at k
  split at k
  case h_2 => exact k.elim
  rename_i ys0 h0
  obtain ⟨y0, hs, a, vs0, rfl, h1, _⟩ := i.rep.at_ j _ h0
  refine ⟨_, hs, .inl ⟨rfl, _, .inl (.inl h1)⟩, ?_⟩
  have s : Snd X.K TB W (can X.K TB W fe (RE X.K)) fe (RE X.K) := fun σ H env re => ⟨fun a env' q Q k => ⟨env, re, .inl ⟨a, env', q, k⟩⟩, fun k q w Q => ⟨env, re, .inr ⟨k, q, w⟩⟩⟩
  refine use_snd s i k fun p env1 b H1 hfe e1 r i1 k1 => ?_
  split at k1
  case h_2 => exact k1.elim
  rename_i ys
  split at k1
  case h_2 => exact k1.elim
  rename_i xs h2
  split at k1
  case isFalse => exact k1.elim
  rename_i hz
  obtain ⟨y2, hs2, a2, vs2, rfl, h3, al⟩ := i1.rep.at_ j _ h2
  rw [hs] at hs2
  cases hs2
  obtain ⟨c, ws, rfl, h4, bl, _⟩ := r
  exact ⟨a, c, vs2, ws, rfl, rfl, h3, h4, by rw [al.length, bl.length]; exact hz, k1 _ _ (i1.putN h2 hs h3 (al.append bl)).2 (i1.putN h2 hs h3 (al.append bl)).1⟩
/-- x[i] = e -/
theorem so_seti {j : Nat} {x : Str} {px psub : Pos} {ix : Expr} {fi : DEnv → R PV} (hN : X.N[j]? = some x) (hv : Vis X.env.scope x) (hd : (x == ("__debug__" : Str)) = false) (hcd : (x == ("__classdict__" : Str)) = false)
    (ha : ∀ v, assign (.Subscript (.Name x px) ix psub) X.env v = (do
      let ov ← holding [v] (eval (.Name x px) X.env)
      let iv ← holding [v, ov] (eval ix X.env)
      standAt psub
      holding [v, ov, iv] (setItem ov iv v)
      release [v, ov, iv] []))
    (hs : swapsWithSole [.Subscript (.Name x px) ix psub] e pos.line X.env = pure false) (hw : swappedStores [.Subscript (.Name x px) ix psub] e X.env = pure none) (h1 : (assignEach [.Subscript (.Name x px) ix psub] X.env).map (·.2) = [assign (.Subscript (.Name x px) ix psub) X.env])
    (hi : SoE X TB W ix fi) (he : SoE X TB W e fe) : SoS X TB W H0 M (.Assign [.Subscript (.Name x px) ix psub] e pos) (fun e => (fe e).bind fun p e1 => match frz p e1 with
    | some (y, e2) => (match e2[j]? with
      | some (some (.own _)) => (fi e2).bind fun q e3 => (match e3[j]?, res q e3 with
        | some (some (.own xs)), some (.int k) => (match L2.ixN xs.length k with
          | some j' => .ok .nx (e3.set j (some (.own (xs.set j' y))))
          | none => .bad)
        | _, _ => .bad)
      | _ => .bad)
    | none => .bad) := by
  obtain ⟨t, p, s⟩ := he
  obtain ⟨ti, pi, si⟩ := hi
  refine ⟨_, ps_asg (pe_gf p) (pg_sub (pe_var hN hv hd hcd) pi set_list ha) hs hw h1, fun D σ H env i k => ?_⟩
  show t σ H fun v H1 => GF H1 fun H2 => ∃ o, σ[j]? = some (some o) ∧ ti σ H2 fun iv H3 => rSetL o iv v H3 fun H4 => D.nx σ H4
  refine use_snd s i k fun a env1 b H1 hfe e1 r i1 k1 => ?_
  cases hq : frz a env1 with
  | none => rw [hq] at k1; exact k1.elim
  | some w =>
    obtain ⟨v, env2⟩ := w
    rw [hq] at k1
    dsimp only at k1
    split at k1
    case h_2 => exact k1.elim
    rename_i ys h2
    refine frz_gf e1 r hq fun H2 e2 st2 fz => ?_
    have i2 := i.step e2
    obtain ⟨y2, hs2, a2, vs2, rfl, h3, al⟩ := i2.rep.at_ j _ h2
    refine ⟨_, hs2, ?_⟩
    refine use_snd si i2 (k1.mono st2) fun q env3 iv H3 hfi e3 r3 i3 k3 => ?_
    split at k3
    case h_2 => exact k3.elim
    rename_i xs n h4 hn
    split at k3
    case h_2 => exact k3.elim
    rename_i j' hj
    cases (res_rd e3 r3 hn).int
    obtain ⟨y4, hs4, a4, vs4, rfl, h5, al4⟩ := i3.rep.at_ j _ h4
    rw [hs2] at hs4
    cases hs4
    exact ⟨a2, vs4, n, j', rfl, rfl, h5, by rw [al4.length]; exact hj, k3 _ _ (i3.putN h4 hs2 h5 (al4.set (Fz.stay e3.stay fz) j')).2 (i3.putN h4 hs2 h5 (al4.set (Fz.stay e3.stay fz) j')).1⟩
/-! ### loops -/
theorem so_for {tg it : Expr} {body : List Stmt} {gT : Tg} {fi : DEnv → R (List PyData)} (hc : X.calm = true) (hp : PassesOwn (model X.prog X.w) X.A X.env X.xe) (hs : ∀ x, foldedSetIterable it X.env x = pure x) (hm : 0 ∉ tgs gT ∨ M = none) (hg : SoG X TB tg gT) (hi : SoI X TB W tg it fi) (hb : SoB X TB W H0 M body f) :
    SoS X TB W H0 M (.For tg it body [] pos) (fun e => (fi e).bind fun xs e1 => forL gT f xs e1) := by
  obtain ⟨wi, pi, si⟩ := hi
  obtain ⟨gg, pg, sg⟩ := hg
  obtain ⟨tb, pb, sb⟩ := hb
  refine ⟨_, ps_for hp hc pi pg pb hs, fun D σ H env i k => ?_⟩
  show wi σ H fun J H1 => _
  refine use_snd si i k fun xs env1 J H1 hfe e1 itd i1 k1 => ?_
  refine ⟨fun n m σ' H' => ∃ env', m = xs.length - n ∧ n ≤ xs.length ∧ SI X.K TB H0 M σ' H' env' ∧ Stay H1 H' ∧ KS X.K TB W H0 M H' D (forL gT f (xs.drop n) env'), ⟨xs.length, env1, by omega, Nat.zero_le _, i1, Stay.refl _, by rw [List.drop_zero]; exact k1⟩, ?_⟩
  rintro n m σ' H' ⟨env', rfl, hle, i', st, k'⟩
  obtain ⟨it1, it2⟩ := itd H' st n
  by_cases hlt : n < xs.length
  case neg =>
    refine .inl ⟨it2 (List.getElem?_eq_none_iff.mpr (by omega)), ?_⟩
    rw [List.drop_eq_nil_of_le (by omega)] at k'
    exact k' σ' H' (Stay.refl _) i'
  case pos =>
    obtain ⟨d, hd⟩ : ∃ d, xs[n]? = some d := ⟨xs[n], List.getElem?_eq_getElem hlt⟩
    have hdrop : xs.drop n = d :: xs.drop (n + 1) := by
      rw [List.drop_eq_getElem_cons hlt]
      have := List.getElem?_eq_getElem hlt
      rw [hd] at this
      cases this
      rfl
    rw [hdrop] at k'
    unfold forL at k'
    obtain ⟨itg, ity⟩ := it1 d hd
    refine .inr ⟨itg, fun σ2 H2 => ∃ env2, SI X.K TB H0 M σ2 H2 env2 ∧ Stay H1 H2 ∧ KS X.K TB W H0 M H2 D (forL gT f (xs.drop (n + 1)) env2), fun σ2 H2 ⟨env2, q⟩ => ⟨xs.length - (n + 1), by omega, env2, rfl, hlt, q⟩, fun x H3 y => ?_⟩
    obtain ⟨hg3, fz⟩ := ity x H3 y
    have i3 : SI X.K TB H0 M σ' H3 env' ∧ Stay H' H3 := by
      rcases hg3 with rfl | ⟨p, o, nn, rfl⟩
      · exact ⟨i', Stay.refl _⟩
      · exact ⟨i'.step ((EP1.refl i'.rep).new nn), stay_new nn⟩
    obtain ⟨i3, st3⟩ := i3
    split at k'
    case h_1 => exact k'.elim
    rename_i env2 hbd
    refine sg σ' H3 env' env2 x d i3.rep fz hbd _ fun σ2 br => ?_
    have i4 : SI X.K TB H0 M σ2 H3 env2 := by
      refine ⟨br.rep, i3.ext, i3.gone, fun c z => i3.fresh c (br.sub c z), fun a e => ?_⟩
      rcases hm with h0 | h0
      · rw [(br.ne 0 h0).1]
        exact i3.m a e
      · rw [h0] at e
        cases e
    have k4 := k'.mono st3
    refine sb _ σ2 H3 env2 i4 ?_
    cases hf : f env2 with
    | bad => rw [hf] at k4; exact k4
    | exc n => rw [hf] at k4; exact k4
    | ok fl env3 =>
      rw [hf] at k4
      cases fl with
      | nx => exact fun σ5 H5 st5 i5 => ⟨env3, i5, st.trans (st3.trans st5), KS.mono (r := forL gT f (xs.drop (n + 1)) env3) st5 k4⟩
      | ct => exact fun σ5 H5 st5 i5 => ⟨env3, i5, st.trans (st3.trans st5), KS.mono (r := forL gT f (xs.drop (n + 1)) env3) st5 k4⟩
      | brk => exact k4
      | ret v => exact k4
theorem so_whl {c : Expr} {body : List Stmt} {fc : DEnv → R Bool} (hp : PassesOwn (model X.prog X.w) X.A X.env X.xe) (hc : SoT X TB W c fc) (hb : SoB X TB W H0 M body f) : SoS X TB W H0 M (.While c body [] pos) (fun e => whL fc f fuelW e) := by
  obtain ⟨tc, pc, sc⟩ := hc
  obtain ⟨tb, pb, sb⟩ := hb
  refine ⟨_, ps_while hp pc pb, fun D σ H env i k => ?_⟩
  refine ⟨fun m σ' H' => ∃ env', SI X.K TB H0 M σ' H' env' ∧ KS X.K TB W H0 M H' D (whL fc f m env'), ⟨fuelW, env, i, k⟩, ?_⟩
  rintro m σ' H' ⟨env', i', k'⟩
  cases m with
  | zero => exact k'.elim
  | succ m =>
    unfold whL at k'
    refine use_snd sc i' k' fun v env1 w H1 hfe e1 r i1 k1 => ?_
    cases r
    cases v with
    | false =>
      rw [if_neg Bool.false_ne_true] at k1 ⊢
      exact k1 _ _ (Stay.refl _) i1
    | true =>
      rw [if_pos rfl] at k1 ⊢
      refine ⟨fun σ2 H2 => ∃ env2, SI X.K TB H0 M σ2 H2 env2 ∧ KS X.K TB W H0 M H2 D (whL fc f m env2), fun σ2 H2 q => ⟨m, Nat.lt_succ_self m, q⟩, sb _ σ' H1 env1 i1 ?_⟩
      cases hf : f env1 with
      | bad => rw [hf] at k1; exact k1
      | exc n => rw [hf] at k1; exact k1
      | ok fl env3 =>
        rw [hf] at k1
        cases fl with
        | nx => exact fun σ5 H5 st5 i5 => ⟨env3, i5, KS.mono (r := whL fc f m env3) st5 k1⟩
        | ct => exact fun σ5 H5 st5 i5 => ⟨env3, i5, KS.mono (r := whL fc f m env3) st5 k1⟩
        | brk => exact k1
        | ret v => exact k1
end
end Wd
/-! Wd 14: several names at once. -/
namespace Wd
open PySem PySem.Spec PyProof.Rows L2
section
variable {X : Cx} {TB : TL} {W : WEx} {H0 : Hp} {M : Option Addr}
inductive PRs (K : PySem.W.Frag) (H H' : Hp) : List V → List DV → Prop
  | nil : PRs K H H' [] []
  | cons {v : V} {vs : List V} {d : DV} {ds : List DV} : RN K H H' v d → (∀ a ys, v = .ref a → d = .own ys → ∀ p ∈ vs.zip ds, ∀ zs, p = (V.ref a, DV.own zs) → False) → PRs K H H' vs ds → PRs K H H' (v :: vs) (d :: ds)
theorem PRs.length {K : PySem.W.Frag} {H H' : Hp} : ∀ {vs : List V} {ds : List DV}, PRs K H H' vs ds → vs.length = ds.length
  | _, _, .nil => rfl
  | _, _, .cons _ _ r => congrArg (· + 1) (PRs.length r)
theorem PRs.later {K : PySem.W.Frag} {H H1 : Hp} (st : Stay H1 H1) : True := trivial
theorem PRs.mem {K : PySem.W.Frag} {H H' : Hp} : ∀ {vs : List V} {ds : List DV}, PRs K H H' vs ds → ∀ p ∈ vs.zip ds, RN K H H' p.1 p.2
  | _, _, .nil, p, h => by simp at h
  | _, _, .cons h _ r, p, hp => by
    rw [List.zip_cons_cons] at hp
    rcases List.mem_cons.mp hp with rfl | hp
    · exact h
    · exact PRs.mem r p hp
theorem RN.whole {K : PySem.W.Frag} {H0 H1 H2 : Hp} (g : ∀ b, H1 b = none → H0 b = none) {v : V} {d : DV} (h : RN K H1 H2 v d) : RN K H0 H2 v d := by
  cases d with
  | d y => exact h
  | own ys =>
    obtain ⟨a, ws, e, h1, al, n⟩ := h
    exact ⟨a, ws, e, h1, al, g a n⟩
theorem PRs.whole {K : PySem.W.Frag} {H0 H1 H2 : Hp} (g : ∀ b, H1 b = none → H0 b = none) : ∀ {vs : List V} {ds : List DV}, PRs K H1 H2 vs ds → PRs K H0 H2 vs ds
  | _, _, .nil => .nil
  | _, _, .cons h n r => .cons (h.whole g) n (PRs.whole g r)
def SoV (X : Cx) (TB : TL) (W : WEx) (es : List Expr) (f : DEnv → R (List DV)) : Prop := ∃ t, PA X es t ∧ Snd X.K TB W t f (fun H H' _ _ vs ds => PRs X.K H H' vs ds)
theorem so_nilV : SoV X TB W [] (fun e => .ok [] e) := ⟨_, pa_nil, fun σ H env re => sa_val fun Q k => k [] H (EP1.refl re) .nil⟩
theorem so_consV {e : Expr} {es : List Expr} {f : DEnv → R PV} {fs : DEnv → R (List DV)} (hs : starEach (e :: es) X.env = (false, eval e X.env) :: starEach es X.env) (he : SoE X TB W e f) (hr : SoV X TB W es fs) :
    SoV X TB W (e :: es) (fun e => (f e).bind fun p e1 => match tak p e1 with
      | some (x, e2) => (fs e2).bind fun xs e3 => .ok (x :: xs) e3
      | none => .bad) := by
  obtain ⟨te, pe, se⟩ := he
  obtain ⟨tr, pr, sr⟩ := hr
  refine ⟨_, pa_cons (pe_gf pe) pr hs, fun σ H env re => ?_⟩
  show SndAt X.K TB W σ H env (fun Q => te σ H fun x H1 => GF H1 fun H2 => tr σ H2 fun xs H3 => Q (x :: xs) H3) _ _
  refine sa_bind (se σ H env re) fun x p H1 env1 e1 r1 => ?_
  cases q : tak p env1 with
  | none => exact sa_bad
  | some w =>
    obtain ⟨y, env2⟩ := w
    have go : ∀ H2, EP1 X.K TB σ H env H2 env2 → PR X.K H H2 σ env2 x (.val y) → SndAt X.K TB W σ H env (fun Q : List V → Hp → Prop => tr σ H2 fun xs H3 => Q (x :: xs) H3) ((fs env2).bind fun xs e3 => .ok (y :: xs) e3) (fun H' _ vs ds => PRs X.K H H' vs ds) := fun H2 e2 pr => by
      refine sa_bind (sr.at e2) fun xs ds H3 env3 e3 ⟨e23, r3⟩ => ?_
      have px : PR X.K H H3 σ env3 x (.val y) := pr.later e2 e23
      refine sa_val fun Q k => k _ H3 e3 (.cons ?_ (fun a ys e1' e2' p hp zs hz => ?_) (r3.whole e2.gone))
      · cases y with
        | d z => exact px
        | own zs => exact px
      · subst e1' e2'
        -- the earlier one stood when the later one was new
        have h := r3.mem p hp
        rw [hz] at h
        obtain ⟨b, ws, e, _, _, n⟩ := h
        cases e
        obtain ⟨c, us, e, h2, _, _⟩ := pr
        cases e
        rw [n] at h2
        cases h2
    refine ⟨fun a env' hq Q k => tak_gf e1 r1 q fun H2 e2 _ pr => (go H2 e2 pr).1 a env' hq Q k, fun k hq hw Q => tak_gf e1 r1 q fun H2 e2 _ pr => (go H2 e2 pr).2 k hq hw Q⟩
/-- the names in a row get the values in a row -/
def setV : List Nat → List V → L2.St → L2.St
  | i :: is, v :: vs, σ => setV is vs (σ.set i (some v))
  | _, _, σ => σ
theorem SI.setAll {K : PySem.W.Frag} {H1 : Hp} : ∀ {is : List Nat} {vs : List V} {ds : List DV} {σ : L2.St} {env env' : DEnv}, SI K TB H0 M σ H1 env → (0 ∉ is ∨ M = none) → PRs K H0 H1 vs ds → (∀ p ∈ vs.zip ds, ∀ a zs, p = (V.ref a, DV.own zs) → ¬ OwnA env σ a) → setAll is ds env = some env' → SI K TB H0 M (setV is vs σ) H1 env'
  | [], vs, [], σ, env, env', i, hm, r, hn, q => by
    cases r
    cases q
    exact i
  | [], vs, d :: ds, σ, env, env', i, hm, r, hn, q => by cases q
  | j :: is, vs, [], σ, env, env', i, hm, r, hn, q => by cases q
  | j :: is, vs, d :: ds, σ, env, env', i, hm, r, hn, q => by
    cases r with
    | cons h nn r =>
      rename_i v vs
      simp only [Wd.setAll] at q
      split at q
      case isFalse => cases q
      rename_i hlt
      have hr : RetV K H0 H1 v d := by
        cases d with
        | d y => exact h
        | own ys => exact h
      have hv : ∀ a ys, v = .ref a → d = .own ys → ¬ OwnA env σ a := fun a ys e1 e2 => hn (v, d) (by rw [List.zip_cons_cons]; exact List.mem_cons_self) a ys (by rw [e1, e2])
      have i1 := i.setv hlt (hm.imp (fun z => fun e => z (by simp [e])) id) hr hv
      show SI K TB H0 M (setV is vs (σ.set j (some v))) H1 env'
      refine SI.setAll i1 (hm.imp (fun z hz => z (List.mem_cons_of_mem _ hz)) id) r (fun p hp a zs hz ow => ?_) q
      obtain ⟨k, xs, q1, q2⟩ := ow
      rcases set_some_get q1 with ⟨rfl, e⟩ | ⟨hk, e⟩
      · rcases set_some_get q2 with ⟨_, e2⟩ | ⟨z, _⟩
        · cases e2
          exact nn a xs rfl (Option.some.inj e) p hp zs hz
        · exact (z rfl).elim
      · rw [List.getElem?_set_ne (Ne.symm hk)] at q2
        exact hn p (by rw [List.zip_cons_cons]; exact List.mem_cons_of_mem _ hp) a zs hz ⟨k, xs, e, q2⟩
abbrev parF (is : List Nat) (fs : DEnv → R (List DV)) : DEnv → R Fl := fun e => (fs e).bind fun vs e1 => match setAll is vs e1 with
    | some e2 => .ok .nx e2
    | none => .bad
theorem setAll_len : ∀ {is : List Nat} {ds : List DV} {e e' : DEnv}, setAll is ds e = some e' → is.length = ds.length
  | [], [], _, _, _ => rfl
  | [], _ :: _, _, _, h => by cases h
  | _ :: _, [], _, _, h => by cases h
  | _ :: is, _ :: ds, e, e', h => by
    simp only [setAll] at h
    split at h
    · rw [List.length_cons, List.length_cons, setAll_len h]
    · cases h
/-- behind the values -/
theorem par_fin {K : PySem.W.Frag} {σ : L2.St} {H H1 : Hp} {env env1 env2 : DEnv} {is : List Nat} {vs : List V} {ds : List DV} (i : SI K TB H0 M σ H env) (e : EP1 K TB σ H env H1 env1) (r : PRs K H H1 vs ds) (hm : 0 ∉ is ∨ M = none) (q : setAll is ds env1 = some env2) : SI K TB H0 M (setV is vs σ) H1 env2 :=
  (i.step e).setAll hm (r.whole i.gone) (fun p hp a zs hz ow => by
    have h := r.mem p hp
    rw [hz] at h
    obtain ⟨b, ws, e', _, _, n⟩ := h
    cases e'
    obtain ⟨us, q⟩ := e.base a (e.sub a ow)
    rw [n] at q
    cases q) q
theorem so_par2 {i j : Nat} {x y : Str} {a b : Expr} {px py pt pos : Pos} {kt k2 : Nat} {pt2 : Pos} {fs : DEnv → R (List DV)} (hc : X.calm = true) (hN : X.N.Nodup) (hi : X.N[i]? = some x) (hj : X.N[j]? = some y) (hij : i ≠ j)
    (hx : X.env.scope.names.lookup x = some .local) (hy : X.env.scope.names.lookup y = some .local) (hw : swappedStores [.Tuple [.Name x px, .Name y py] kt pt] (.Tuple [a, b] k2 pt2) X.env = pure (some [x, y]))
    (hs : swapsWithSole [.Tuple [.Name x px, .Name y py] kt pt] (.Tuple [a, b] k2 pt2) pos.line X.env = pure false) (hm : 0 ∉ [i, j] ∨ M = none) (ha : SoV X TB W [a, b] fs) : SoS X TB W H0 M (.Assign [.Tuple [.Name x px, .Name y py] kt pt] (.Tuple [a, b] k2 pt2) pos) (parF [i, j] fs) := by
  obtain ⟨t, p, s⟩ := ha
  refine ⟨_, ps_par hc hN hi hj hij hx hy p hw hs, fun D σ H env i' k => ?_⟩
  show t σ H fun vs H1 => ∃ v w, vs = [v, w] ∧ D.nx ((σ.set i (some v)).set j (some w)) H1
  refine use_snd s i' k fun ds env1 vs H1 hfe e1 r i1 k1 => ?_
  cases hq : setAll [i, j] ds env1 with
  | none => rw [hq] at k1; exact k1.elim
  | some env2 =>
    rw [hq] at k1
    have hl := setAll_len hq
    have hv := r.length
    have fin := par_fin i' e1 r hm hq
    have h2 : vs.length = 2 := by rw [hv, ← hl]; rfl
    obtain ⟨v, w, e⟩ : ∃ v w, vs = [v, w] := by
      cases vs with
      | nil => cases h2
      | cons v vs =>
        cases vs with
        | nil => cases h2
        | cons w vs =>
          cases vs with
          | nil => exact ⟨v, w, rfl⟩
          | cons _ _ => cases h2
    subst e
    exact ⟨v, w, rfl, k1 _ H1 (Stay.refl _) fin⟩
def SoNs (X : Cx) (tg : List Expr) (is : List Nat) : Prop := ∃ g : TGs, PGs X tg g ∧ ∀ (vs : List V) (σ : L2.St) (H : Hp) (Q : L2.St → Hp → Prop), vs.length = is.length → Q (setV is vs σ) H → g vs σ H Q
theorem so_nsnil : SoNs X [] [] := ⟨_, pgs_nil, fun vs σ H Q hl q => by
  cases vs with
  | nil => exact ⟨rfl, q⟩
  | cons _ _ => cases hl⟩
theorem so_nscons {i : Nat} {x : Str} {px : Pos} {es : List Expr} {is : List Nat} (hN : X.N.Nodup) (hi : X.N[i]? = some x) (hx : L2.Loc X.env.scope x) (hf : X.fn x = true ∨ X.env.scope.names.lookup x = some .local) (h : SoNs X es is) : SoNs X (.Name x px :: es) (i :: is) := by
  obtain ⟨g, p, s⟩ := h
  refine ⟨_, pgs_cons (pg_name hN hi hx hf) p rfl, fun vs σ H Q hl q => ?_⟩
  cases vs with
  | nil => cases hl
  | cons v vs => exact ⟨v, vs, rfl, s vs _ H Q (by simpa using hl) q⟩
/-- by way of a tuple -/
theorem so_part {ts es : List Expr} {is : List Nat} {kt k2 : Nat} {pt pt2 pos : Pos} {fs : DEnv → R (List DV)} (hc : X.calm = true) (hst : (assignEach ts X.env).findIdx? (·.1) = none) (hnl : (assignEach ts X.env).length = is.length) (hw : swappedStores [.Tuple ts kt pt] (.Tuple es k2 pt2) X.env = pure none)
    (hs : swapsWithSole [.Tuple ts kt pt] (.Tuple es k2 pt2) pos.line X.env = pure false) (h1 : (assignEach [.Tuple ts kt pt] X.env).map (·.2) = [assign (.Tuple ts kt pt) X.env]) (hm : 0 ∉ is ∨ M = none) (hz : is.length ≤ sizeLine) (hg : SoNs X ts is) (ha : SoV X TB W es fs) : SoS X TB W H0 M (.Assign [.Tuple ts kt pt] (.Tuple es k2 pt2) pos) (parF is fs) := by
  obtain ⟨t, p, s⟩ := ha
  obtain ⟨g, pg, sg⟩ := hg
  refine ⟨_, ps_asg (pe_tup p) (pg_tup hc pg hnl hst) hs hw h1, fun D σ H env i' k => ?_⟩
  show t σ H fun vs H1 => vs.length ≤ sizeLine ∧ ∀ p, H1 p = none → ∃ a xs, V.ref p = .ref a ∧ SqT X.K (upd H1 p (.tup vs)) a xs ∧ xs.length = is.length ∧ g xs σ (upd H1 p (.tup vs)) D.nx
  refine use_snd s i' k fun ds env1 vs H1 hfe e1 r i1 k1 => ?_
  cases hq : setAll is ds env1 with
  | none => rw [hq] at k1; exact k1.elim
  | some env2 =>
    rw [hq] at k1
    have hl := setAll_len hq
    have hv := r.length
    have fin := par_fin i' e1 r hm hq
    refine ⟨by omega, fun p n => ⟨p, vs, rfl, .inl (.inl upd_same), by omega, sg vs σ _ _ (by omega) (k1 _ _ (stay_new n) ?_)⟩⟩
    exact fin.step ((EP1.refl fin.rep).new n)
end
end Wd
/-! Wd 15: a text of Python is a compact program: checked, and what follows. -/
namespace Wd
open PySem PySem.Spec PyProof.Rows L2
/-- what is told of the module -/
structure CX where
  N : List Str
  fns : List (Str × Nat)
  blts : List Str
  glos : List Str
  excs : List Str
  hot : Bool := false
  told : Bool := false
  tnm : List Str := []
def notStar : Expr → Bool
  | .Starred .. => false
  | _ => true
def notSl : Expr → Bool
  | .Slice .. => false
  | _ => true
def notSet : Expr → Bool
  | .Set .. => false
  | _ => true
def notComp : Expr → Bool
  | .ListComp .. => false
  | .SetComp .. => false
  | .DictComp .. => false
  | _ => true
def plainT : Expr → Bool
  | .UnaryOp .Not .. => false
  | .BoolOp .. => false
  | .IfExp .. => false
  | .Compare .. => false
  | _ => true
def nmOk (x : Str) : Bool := decide (¬ x = "__debug__") && decide (¬ x = "__classdict__")
def visB (sc : Scope) (x : Str) : Bool := match sc.names.lookup x with
  | some .local => true
  | some .cell => true
  | some .free => true
  | _ => false
def glB (sc : Scope) (x : Str) : Bool := decide (sc.names.lookup x = some .globalImplicit)
def locB (sc : Scope) (fn : Str → Bool) (x : Str) : Bool := match sc.names.lookup x with
  | some .local => true
  | some .cell => fn x
  | _ => false
def op2Op : Op2 → Operator
  | .add => .Add
  | .sub => .Sub
  | .mul => .Mult
  | .fdiv => .FloorDiv
  | .mod => .Mod
  | .pow => .Pow
def ownP (N : List Str) (own : List Nat) : Option (List (Str × Nat)) := own.mapM fun i => (N[i]?).map fun x => (x, i)
def stars : List Expr → Bool
  | [] => true
  | e :: es => notStar e && stars es
def kindB (sc : Scope) : Bool := match sc.kind with
  | .function => true
  | _ => false
/-- the defaults of a lambda: none, or ints -/
def dfB : List Expr → Option (List Int)
  | [] => some []
  | [.Constant (.int i) _ _] => some [i]
  | _ => none
/-- a lambda's parameters: as many as defaults -/
def parB (pr : Arguments) : Bool := pr.posonlyargs.isEmpty && pr.kwonlyargs.isEmpty && pr.kw_defaults.isEmpty && pr.vararg.isNone && pr.kwarg.isNone && decide (pr.args.length = pr.defaults.length) && (dfB pr.defaults).isSome
def lamPB (N : List Str) (sp : Scope) (pr : Arguments) (sc : Scope) : Bool := kindB sc && !sc.isCoroutine && !sc.isGenerator && (pr.args.all fun x => decide (sc.names.lookup x.arg = some .local)) && sc.names.all fun y => match y.2 with
  | .cell => false
  | .local => decide (y.1 ∉ N)
  | .free => decide (sp.names.lookup y.1 = some .cell) || decide (sp.names.lookup y.1 = some .free)
  | _ => true
mutual
def okG (C : CX) (sc : Scope) (fn : Str → Bool) : Tg → Expr → Bool
  | .name i, e => match e with
    | .Name x _ => decide (C.N[i]? = some x) && locB sc fn x
    | _ => false
  | .tup gs, e => match e with
    | .Tuple es _ _ => okGs C sc fn gs es && stars es
    | _ => false
def okGs (C : CX) (sc : Scope) (fn : Str → Bool) : Tgs → List Expr → Bool
  | .nil, es => match es with
    | [] => true
    | _ => false
  | .cons g gs, es => match es with
    | e :: es => notStar e && okG C sc fn g e && okGs C sc fn gs es
    | _ => false
end
mutual
def okE (C : CX) (sc : Scope) : E → Expr → Bool
  | .var i, e => match e with
    | .Name x _ => decide (C.N[i]? = some x) && visB sc x && nmOk x
    | _ => false
  | .int i, e => match e with
    | .Constant (.int j) _ _ => decide (i = j)
    | _ => false
  | .str s, e => match e with
    | .Constant (.str x) _ _ => decide (s = x)
    | _ => false
  | .bl b, e => match e with
    | .Constant (.bool c) _ _ => decide (b = c)
    | _ => false
  | .non, e => match e with
    | .Constant .none _ _ => true
    | _ => false
  | .glo k, e => match e with
    | .Name x _ => decide (C.glos[k]? = some x) && glB sc x && nmOk x
    | _ => false
  | .bin o a b, e => match e with
    | .BinOp l op r _ => decide (op = op2Op o) && okE C sc a l && okE C sc b r
    | _ => false
  | .rep a b, e => match e with
    | .BinOp l .Mult r _ => okE C sc a l && okE C sc b r
    | _ => false
  | .neg a, e => match e with
    | .UnaryOp .USub x _ => okE C sc a x
    | _ => false
  | .cmp o a b, e => match e with
    | .Compare l [op] [r] _ => decide (op = cmOp o) && notSet r && okE C sc a l && okE C sc b r
    | _ => false
  | .chain o p a b c, e => match e with
    | .Compare l [op, op'] [r, s] _ => decide (op = cmOp o) && decide (op' = cmOp p) && notSet s && okE C sc a l && okE C sc b r && okE C sc c s
    | _ => false
  | .ands es, e => match e with
    | .BoolOp .And vs _ => okBs C sc es vs
    | _ => false
  | .ors es, e => match e with
    | .BoolOp .Or vs _ => okBs C sc es vs
    | _ => false
  | .nott a, e => match e with
    | .UnaryOp .Not x _ => okE C sc a x
    | _ => false
  | .ife c a b, e => match e with
    | .IfExp t x y _ => okT C sc c t && okE C sc a x && okE C sc b y
    | _ => false
  | .tup es, e => match e with
    | .Tuple vs _ _ => okDs C sc es vs
    | _ => false
  | .lst es, e => match e with
    | .List vs _ => okDs C sc es vs
    | _ => false
  | .idx a i, e => match e with
    | .Subscript x y _ => notSl y && okE C sc a x && okE C sc i y
    | _ => false
  | .slc a lo hi, e => match e with
    | .Subscript x (.Slice l h none _) _ => okE C sc a x && okO C sc lo l && okO C sc hi h
    | _ => false
  | .call f es, e => match e with
    | .Call (.Name x _) vs [] _ => decide (C.fns[f]? = some (x, vs.length)) && glB sc x && nmOk x && okEs C sc es vs
    | _ => false
  | .callm f i es, e => match e with
    | .Call (.Name x _) (.Name y _ :: vs) [] _ => decide (C.fns[f]? = some (x, vs.length + 1)) && glB sc x && nmOk x && decide (C.N[i]? = some y) && visB sc y && nmOk y && okEs C sc es vs
    | _ => false
  | .blt b es, e => match e with
    | .Call (.Name x _) (v :: vs) [] _ => (!C.hot || !b.cold) && decide (x = Str.ofString b.id) && decide (x ∈ C.blts) && glB sc x && okEs C sc es (v :: vs)
    | _ => false
  | .lc elt g it c own, e => match e with
    | .ListComp el [⟨tg, iter, ifs, 0⟩] scope _ => (match ownP C.N own with
      | some ps => !C.hot && blkC C.N sc scope ps && notSet iter && (tgs g).all (fun i => decide (i ∈ own)) && okI C sc it tg iter && okG C (relS scope sc) (fun x => scope.names.lookup x == some .cell) g tg && okTs { C with told := false } (relS scope sc) c ifs && okE { C with told := false } (relS scope sc) elt el
      | none => false)
    | _ => false
  | .fmt a, e => match e with
    | .FormattedValue x (-1) none _ => okE C sc a x
    | _ => false
  | .js es, e => match e with
    | .JoinedStr (u :: v :: vs) _ => okEs C sc es (u :: v :: vs)
    | _ => false
  | .told nm a, e => match e with
    | .Call (.Name x _) [.Lambda pr bd s2 _] [] _ => C.told && decide (x = "_law_told") && decide (nm = C.tnm) && glB sc "_law_told" && parB pr && lamPB C.N sc pr s2 && okE { C with told := false } s2 a bd
    | _ => false
  | .m1 m a b, e => match e with
    | .Call (.Attribute o x apos) [v] [] pos => decide (x = m.nm) && notSup o && (apos.endLine == pos.line) && notStar v && okE C sc a o && okE C sc b v
    | _ => false
  | .ml m a b, e => match e with
    | .Call (.Attribute o x apos) [v] [] pos => decide (x = m.nm) && notSup o && (apos.endLine == pos.line) && notStar v && okE C sc a o && okE C sc b v
    | _ => false
  | .rev a, e => match e with
    | .Subscript x (.Slice none none (some (.UnaryOp .USub (.Constant (.int i) _ _) _)) _) _ => decide (i = 1) && okE C sc a x
    | _ => false
def okEs (C : CX) (sc : Scope) : Es → List Expr → Bool
  | .nil, vs => match vs with
    | [] => true
    | _ => false
  | .cons a es, vs => match vs with
    | v :: vs => notStar v && okE C sc a v && okEs C sc es vs
    | _ => false
  | .star _ _, _ => false
/-- a display's elements, starred ones too -/
def okDs (C : CX) (sc : Scope) : Es → List Expr → Bool
  | .nil, vs => match vs with
    | [] => true
    | _ => false
  | .cons a es, vs => match vs with
    | v :: vs => notStar v && okE C sc a v && okDs C sc es vs
    | _ => false
  | .star a es, vs => match vs with
    | .Starred v _ :: vs => okE C sc a v && okDs C sc es vs
    | _ => false
def okBs (C : CX) (sc : Scope) : Es → List Expr → Bool
  | .nil, _ => false
  | .cons a es, vs => match es with
    | .nil => (match vs with
      | [v] => okE C sc a v
      | _ => false)
    | es => (match vs with
      | v :: w :: vs => okE C sc a v && okBs C sc es (w :: vs)
      | _ => false)
  | .star _ _, _ => false
def okO (C : CX) (sc : Scope) : Eo → Option Expr → Bool
  | .no, e => match e with
    | none => true
    | _ => false
  | .so a, e => match e with
    | some x => okE C sc a x
    | _ => false
def okT (C : CX) (sc : Scope) : T → Expr → Bool
  | .tru a, e => plainT e && okE C sc a e
  | .cmp o a b, e => match e with
    | .Compare l [op] [r] _ => decide (op = cmOp o) && notSet r && okE C sc a l && okE C sc b r
    | _ => false
  | .chain o p a b c, e => match e with
    | .Compare l [op, op'] [r, s] _ => decide (op = cmOp o) && decide (op' = cmOp p) && notSet s && okE C sc a l && okE C sc b r && okE C sc c s
    | _ => false
  | .ands ts, e => match e with
    | .BoolOp .And vs _ => okW C sc ts vs
    | _ => false
  | .ors ts, e => match e with
    | .BoolOp .Or vs _ => okW C sc ts vs
    | _ => false
  | .nott t, e => match e with
    | .UnaryOp .Not x _ => okT C sc t x
    | _ => false
/-- tests in a row, one at least -/
def okW (C : CX) (sc : Scope) : Ts → List Expr → Bool
  | .nil, _ => false
  | .cons t ts, vs => match ts with
    | .nil => (match vs with
      | [v] => okT C sc t v
      | _ => false)
    | ts => (match vs with
      | v :: w :: vs => okT C sc t v && okW C sc ts (w :: vs)
      | _ => false)
/-- a comprehension's tests: none or one -/
def okTs (C : CX) (sc : Scope) : Ts → List Expr → Bool
  | .nil, vs => match vs with
    | [] => true
    | _ => false
  | .cons t ts, vs => match ts with
    | .nil => (match vs with
      | [v] => okT C sc t v
      | _ => false)
    | _ => false
def okI (C : CX) (sc : Scope) : I → Expr → Expr → Bool
  | .data a, _, e => okE C sc a e
  | .rng1 a, _, e => match e with
    | .Call (.Name x _) [v] [] _ => decide (x = "range") && decide (x ∈ C.blts) && glB sc x && notStar v && okE C sc a v
    | _ => false
  | .rng2 a b, _, e => match e with
    | .Call (.Name x _) [v, w] [] _ => decide (x = "range") && decide (x ∈ C.blts) && glB sc x && notStar v && notStar w && okE C sc a v && okE C sc b w
    | _ => false
  | .enum es, tg, e => match tg, e with
    | .Tuple _ _ _, .Call (.Name x _) [v] [] _ => decide (x = "enumerate") && decide (x ∈ C.blts) && glB sc x && notStar v && okEs C sc es [v]
    | _, _ => false
  | .zip es, tg, e => match tg, e with
    | .Tuple _ _ _, .Call (.Name x _) [v, w] [] _ => decide (x = "zip") && decide (x ∈ C.blts) && glB sc x && notStar v && notStar w && okEs C sc es [v, w]
    | _, _ => false
end
/-! ### what the looks at the text give -/
theorem star_eq {e : Expr} (h : notStar e = true) (es : List Expr) (env : Env) : starEach (e :: es) env = (false, eval e env) :: starEach es env := by
  cases e <;> first | rfl | cases h
theorem stars_any {env : Env} {pos : Pos} : ∀ {es : List Expr}, stars es = true → (backTo pos (starEach es env)).any (·.1) = false
  | [], _ => rfl
  | e :: es, h => by
    unfold stars at h
    rw [Bool.and_eq_true] at h
    rw [star_eq h.1]
    show ((false, _) :: backTo pos (starEach es env)).any (·.1) = false
    rw [List.any_cons, stars_any h.2]
    rfl
theorem okEs_stars {C : CX} {sc : Scope} : ∀ {es : Es} {vs : List Expr}, okEs C sc es vs = true → stars vs = true
  | .nil, [], _ => rfl
  | .nil, _ :: _, h => by cases h
  | .cons _ _, [], h => by cases h
  | .star _ _, _, h => by cases h
  | .cons a es, v :: vs, h => by
    simp only [okEs, Bool.and_eq_true] at h
    unfold stars
    rw [h.1.1, okEs_stars h.2]
    rfl
theorem evDs_len {O : Orc} {C : CX} {sc : Scope} : ∀ {es : Es} {vs : List Expr} {e e' : DEnv} {xs : List PyData}, okEs C sc es vs = true → evDs O es e = .ok xs e' → xs.length = vs.length
  | .nil, [], _, _, _, _, h => by
    simp only [evDs] at h
    cases h
    rfl
  | .nil, _ :: _, _, _, _, h, _ => by cases h
  | .cons _ _, [], _, _, _, h, _ => by cases h
  | .star _ _, _, _, _, _, h, _ => by cases h
  | .cons a es, v :: vs, e, e', xs, h, q => by
    simp only [okEs, Bool.and_eq_true] at h
    simp only [evDs] at q
    cases ha : ev O a e with
    | bad => rw [ha] at q; cases q
    | exc _ => rw [ha] at q; cases q
    | ok p e1 =>
      rw [ha] at q
      simp only [R.bind_ok] at q
      cases hz : frz p e1 with
      | none => rw [hz] at q; cases q
      | some w =>
        obtain ⟨x, e2⟩ := w
        rw [hz] at q
        dsimp only at q
        cases hr : evDs O es e2 with
        | bad => rw [hr] at q; cases q
        | exc _ => rw [hr] at q; cases q
        | ok ys e3 =>
          rw [hr] at q
          simp only [R.bind_ok] at q
          cases q
          rw [List.length_cons, List.length_cons, evDs_len h.2 hr]
theorem nm1 {x : Str} (h : nmOk x = true) : (x == ("__debug__" : Str)) = false ∧ (x == ("__classdict__" : Str)) = false := by
  simp only [nmOk, Bool.and_eq_true, decide_eq_true_eq] at h
  exact ⟨beq_eq_false_iff_ne.mpr h.1, beq_eq_false_iff_ne.mpr h.2⟩
theorem vis1 {sc : Scope} {x : Str} (h : visB sc x = true) : Vis sc x := by
  unfold visB at h
  split at h
  · exact .inl (by assumption)
  · exact .inr (.inl (by assumption))
  · exact .inr (.inr (by assumption))
  · cases h
theorem plain_ix {i : Expr} (h : notSl i = true) : PlainIx i := by
  intro o j
  cases i <;> first | rfl | cases h
theorem plain_t {e : Expr} (h : plainT e = true) (env : Env) : ∀ whole, isTrue e env whole = (do let v ← whole; standAt e.pos; holding [v] (truthy v)) := by
  intro whole
  cases e <;> first | rfl | cases h | (rename_i op _ _; cases op <;> first | rfl | cases h)
theorem behind_set {op : CmpOp} {e : Expr} (h : notSet e = true) : behindInMarks op e = false := by
  cases e <;> first | rfl | cases h
theorem folded_set {e : Expr} (h : notSet e = true) (env : Env) : ∀ x, foldedSetIterable e env x = pure x := by
  intro x
  cases e <;> first | rfl | cases h
theorem ownP_map {N : List Str} : ∀ {own : List Nat} {ps : List (Str × Nat)}, ownP N own = some ps → ps.map (·.2) = own
  | [], ps, h => by
    simp [ownP] at h
    subst h
    rfl
  | i :: own, ps, h => by
    unfold ownP at h
    rw [List.mapM_cons] at h
    simp only [Option.bind_eq_bind, Option.bind_eq_some_iff, Option.map_eq_some_iff] at h
    obtain ⟨p, ⟨x, _, rfl⟩, qs, h2, h3⟩ := h
    cases h3
    rw [List.map_cons, ownP_map (own := own) h2]
end Wd
/-! Wd 16: a checked text computes what its compact form tells: targets, operators, texts. -/
namespace Wd
open PySem PySem.Spec PyProof.Rows L2
/-- a short tuple, many times -/
def rRepS (K : PySem.W.Frag) : R2 := fun x y H Q => ∃ l k xs, x = .ref l ∧ y = .int k ∧ SqT K H l xs ∧ xs ≠ [] ∧ 2 ≤ k ∧ k ≤ 10000 ∧ xs.length ≤ 100 ∧ ∀ p, H p = none → Q (.ref p) (upd H p (.tup (List.replicate k.toNat xs).flatten))
theorem op_repS {X : Cx} : OpR X (binaryOp .Mult) (rRepS X.K) := by
  intro pins s σ H x y v u Q I rx ry h
  obtain ⟨l, k, xs, rfl, rfl, hT, hne, h1, h2, hz, q⟩ := h
  cases rx
  obtain ⟨t, rfl⟩ := ry
  obtain ⟨its, r, ⟨⟨cls, dd, data, sl⟩, ho, hc, n, hd⟩, hs⟩ := I.tuple hT
  simp only at hc hd
  subst hc hd
  have hle : its.length = xs.length := r.length.symm
  have hn : its ≠ [] := fun e => hne (by
    rw [e] at hle
    exact List.eq_nil_of_length_eq_zero hle.symm)
  have hi : its.toArray.isEmpty = false := by
    cases its with
    | nil => exact absurd rfl hn
    | cons a b => rfl
  have hsz0 : its.toArray.size = xs.length := by rw [List.size_toArray, hle]
  have hm : ((its.toArray.size : Nat) : Int) * k ≤ 1000000 := by
    rw [hsz0]
    have a1 : ((xs.length : Nat) : Int) * k ≤ 100 * k := Int.mul_le_mul_of_nonneg_right (by omega) (by omega)
    omega
  have a2 : k.toNat * xs.length ≤ 10000 * 100 := Nat.mul_le_mul (by omega) hz
  have flen : (List.replicate k.toNat its).flatten.length ≤ sizeLine := by
    rw [PyProof.Rows.lm_len_rep_flat, hle, sizeLine_eq]
    omega
  have c0 : (decide (k < -(2 ^ 63)) || decide (k ≥ 2 ^ 63)) = false := by
    rw [decide_eq_false (by omega), decide_eq_false (by omega)] <;> rfl
  have c1 : (its.toArray.isEmpty || k == 1) = false := by
    rw [hi, Bool.false_or]
    exact beq_eq_false_iff_ne.mpr (by omega)
  have c2 : (decide (k ≤ 0) || its.toArray.isEmpty) = false := by
    rw [hi, Bool.or_false]
    exact decide_eq_false (by omega)
  have c4 : Builtin.Tuple.tupleTooMany (((its.toArray.size : Nat) : Int) * k) = false := by
    unfold Builtin.Tuple.tupleTooMany
    rw [sizeLine_eq]
    exact decide_eq_false (by omega)
  refine wpAny_binaryOp_repeat_ref (T := "tuple") (U := "int") (by decide) ⟨_, ho, rfl⟩ (fun s' => typeIs_int s' k t) noFill_tuple_mul PySem.F.fills_int_mul PySem.F.slot_int_rmul repeat_tuple PySem.F.slot_int_index.lookup
    (call_meets PySem.F.slot_int_rmul (typeIs_int s k t) PySem.F.entry_int_rmul (PySem.F.args_int_rmul_2 _ _) (int_rmul_tuple k t l its.toArray n dd sl)
      ⟨ho, rfl, ⟨_, ho, rfl⟩, call_meets PySem.F.slot_tuple_mul ⟨_, ho, rfl⟩ PySem.F.entry_tuple_mul (PySem.F.args_tuple_mul_2 _ _) (tuple_mulW l its.toArray n dd sl k t c0 c1 c2 (by omega) c4 (by rw [size_rep, List.size_toArray]; exact flen)) ⟨ho, ?_⟩⟩)
  rw [size_rep]
  refine ⟨.ref s.heap.objs.size, _, I.laid (t' := s.toks) (o := .tup (List.replicate k.toNat xs).flatten) (fun b ob q => Heap.get?_push_of_some _ q) (Nat.le_refl _) ?_, rfl, q _ (I.hok.fresh (Nat.le_refl _))⟩
  exact ⟨by rw [PyProof.Rows.lm_len_rep_flat, sizeLine_eq]; omega, _, r.rep k.toNat, IsTup.new _ _⟩
/-- a short text, many times -/
def rRepX : R2 := fun x y H Q => ∃ (a : Str) (k : Int), x = .str a ∧ y = .int k ∧ 2 ≤ k ∧ k ≤ 10000 ∧ 1 ≤ a.length ∧ a.length ≤ 100 ∧ Q (.str ⟨(List.replicate k.toNat a.cps).foldl (· ++ ·) #[]⟩) H
theorem foldl_size (xs : Array Nat) : ∀ (k : Nat) (b : Array Nat), ((List.replicate k xs).foldl (· ++ ·) b).size = b.size + k * xs.size
  | 0, b => by simp
  | k + 1, b => by
    rw [List.replicate_succ, List.foldl_cons, foldl_size xs k, Array.size_append, Nat.add_mul]
    omega
theorem op_repX {X : Cx} : OpR X (binaryOp .Mult) rRepX := by
  intro pins s σ H x y v u Q I rx ry h
  obtain ⟨a, k, rfl, rfl, h1, h2, h3, h4, q⟩ := h
  obtain ⟨t, rfl⟩ := rx
  obtain ⟨t2, rfl⟩ := ry
  have e1 : ¬ k < 1 := by omega
  have e2 : (k == 1 || a.length == 0) = false := by
    rw [Bool.or_eq_false_iff]
    exact ⟨beq_eq_false_iff_ne.mpr (by omega), beq_eq_false_iff_ne.mpr (by omega)⟩
  have a2 : a.length * k.toNat ≤ 100 * 10000 := Nat.mul_le_mul h4 (by omega)
  have hz := sizeLine_eq
  refine PySem.P.mul_str (by rw [decide_eq_false (by omega), decide_eq_false (by omega)] <;> rfl) (fun _ _ => ?_) (fun _ _ => ?_) ?_
  · have : (1000 : Int) ≤ (2 ^ 63 - 1) / k := by
      rw [Int.le_ediv_iff_mul_le (by omega)]
      omega
    omega
  · show decide _ = false
    exact decide_eq_false (by omega)
  · rw [if_neg e1, e2]
    refine ⟨?_, .str _, H, I.tok _, ⟨_, rfl⟩, q⟩
    show ((List.replicate k.toNat a.cps).foldl (· ++ ·) #[]).size ≤ sizeLine
    rw [foldl_size]
    show 0 + k.toNat * a.length ≤ sizeLine
    rw [Nat.mul_comm]
    omega
theorem od_mul {K : PySem.W.Frag} : OpD K (fun x y H Q => ((rI CMulW fun i j => .int (i * j)) x y H Q ∨ rRepS K x y H Q) ∨ rRepX x y H Q) (op2 .mul) := by
  intro H x y dx dy dv hx hy e Q q
  cases dx <;> cases dy <;> simp only [op2, reduceCtorEq] at e
  · cases hx.int
    cases hy.int
    split at e
    · cases e
      rename_i h
      simp only [mulOk, decide_eq_true_eq] at h
      exact .inl (.inl ⟨_, _, rfl, rfl, h, q _ _ (grow_d (.int _))⟩)
    · cases e
  · cases hy.int
    cases hx.str
    split at e
    · cases e
      rename_i h
      exact .inr ⟨_, _, rfl, rfl, h.1, h.2.1, h.2.2.1, h.2.2.2, q _ _ (grow_d (.str _))⟩
    · cases e
  · cases hy.int
    obtain ⟨a, vs, rfl, ha, fa⟩ := hx.tuple
    split at e
    · cases e
      rename_i h
      refine .inl (.inr ⟨a, _, vs, rfl, rfl, ha, fun z => h.1 ?_, h.2.1, h.2.2.1, by rw [fa.length]; exact h.2.2.2, fun p n => q _ _ (grow_tup n (fa.rep _))⟩)
      rw [z] at fa
      cases fa
      rfl
    · cases e
section
variable {X : Cx} {TB : TL} {W : WEx}
theorem so_op {a b : Expr} {fa fb : DEnv → R PV} {pos : Pos} {o : Op2} (ha : SoE X TB W a fa) (hb : SoE X TB W b fb) :
    SoE X TB W (.BinOp a (op2Op o) b pos) (fun e => (fa e).bind fun pa e1 => (fb e1).bind fun pb e2 => lift1 ((res pa e2).bind fun x => (res pb e2).bind fun y => (op2 o x y).map .val) e2) := by
  cases o with
  | add => exact so_bin op_addA od_add ha hb
  | sub => exact so_bin op_sub od_sub ha hb
  | mul => exact so_bin (OpR.or (OpR.or op_mulW op_repS) op_repX) od_mul ha hb
  | fdiv => exact so_bin op_fdivA od_fdiv ha hb
  | mod => exact so_bin op_modN od_mod ha hb
  | pow => exact so_bin op_pow od_pow ha hb
/-- the parts of an f-string -/
def SoJ (X : Cx) (TB : TL) (W : WEx) (es : List Expr) (f : Str → DEnv → R PV) : Prop := ∃ ts : List TE, PJ X es ts ∧ ∀ acc, Snd X.K TB W (fun σ H (Q : VK) => tJs ts acc σ H fun out H1 => Q (.str out) H1) (f acc) (fun H H' σ env' v pv => PR X.K H H' σ env' v pv)
theorem so_jnil : SoJ X TB W [] (fun acc e => .ok (.val (.d (.str acc))) e) := ⟨[], .nil, fun acc σ H env re => sa_val fun Q k => k _ H (EP1.refl re) (Fz.str acc)⟩
theorem so_jcons {e : Expr} {es : List Expr} {f : DEnv → R PV} {fs : Str → DEnv → R PV} (he : SoE X TB W e f) (hr : SoJ X TB W es fs) : SoJ X TB W (e :: es) (fun acc e => (f e).bind fun p e1 => match res p e1 with
    | some (.str y) => if (acc ++ y).length ≤ sizeLine then fs (acc ++ y) e1 else .bad
    | _ => .bad) := by
  obtain ⟨t, p, s⟩ := he
  obtain ⟨ts, ps, ss⟩ := hr
  refine ⟨t :: ts, .cons p ps, fun acc σ H env re => ?_⟩
  show SndAt X.K TB W σ H env (fun Q : VK => t σ H fun x H1 => ∃ y : Str, x = .str y ∧ (acc ++ y).length ≤ sizeLine ∧ tJs ts (acc ++ y) σ H1 fun out H2 => Q (.str out) H2) _ _
  refine sa_bind (s σ H env re) fun x p H1 env1 e1 r1 => ?_
  split
  · rename_i y hy
    split
    · rename_i hz
      cases (res_rd e1 r1 hy).str
      have z := (ss (acc ++ y)).at e1
      exact ⟨fun pv env' q Q k => ⟨y, rfl, hz, z.1 pv env' q Q fun v H' e2 ⟨e12, r⟩ => k v H' e2 (r.whole e1)⟩, fun k' q hw Q => ⟨y, rfl, hz, z.2 k' q hw Q⟩⟩
    · exact sa_bad
  · exact sa_bad
theorem so_js {v1 v2 : Expr} {rest : List Expr} {pos : Pos} {f : Str → DEnv → R PV} (h : SoJ X TB W (v1 :: v2 :: rest) f) : SoE X TB W (.JoinedStr (v1 :: v2 :: rest) pos) (f Str.empty) := by
  obtain ⟨ts, p, s⟩ := h
  exact ⟨_, pe_joined p, s Str.empty⟩
theorem so_fmt {a : Expr} {fa : DEnv → R PV} {pos : Pos} (ha : SoE X TB W a fa) : SoE X TB W (.FormattedValue a (-1) none pos) (fun e => (fa e).bind fun p e1 => match res p e1 with
    | some (.str y) => if y.length ≤ sizeLine then .ok (.val (.d (.str y))) e1 else .bad
    | some (.int i) => if i.natAbs.log2 < 1920 then .ok (.val (.d (.str (toString i)))) e1 else .bad
    | _ => .bad) := by
  obtain ⟨t, p, s⟩ := ha
  refine ⟨_, pe_fmt p, fun σ H env re => ?_⟩
  show SndAt X.K TB W σ H env (fun Q : VK => t σ H fun x H1 => (∃ y : Str, x = .str y ∧ y.length ≤ sizeLine ∧ Q (.str y) H1) ∨ ∃ i : Int, x = .int i ∧ i.natAbs.log2 < 1920 ∧ Q (.str (toString i)) H1) _ _
  refine sa_bind (s σ H env re) fun x p H1 env1 e1 r1 => ?_
  split
  · rename_i y hy
    split
    · rename_i hz
      cases (res_rd e1 r1 hy).str
      exact sa_val fun Q k => .inl ⟨y, rfl, hz, k _ H1 e1 (Fz.str y)⟩
    · exact sa_bad
  · rename_i i hi
    split
    · rename_i hz
      cases (res_rd e1 r1 hi).int
      exact sa_val fun Q k => .inr ⟨i, rfl, hz, k _ H1 e1 (Fz.str _)⟩
    · exact sa_bad
  · exact sa_bad
theorem SoE.cg {e : Expr} {f g : DEnv → R PV} (h : SoE X TB W e f) (q : ∀ env, g env = f env) : SoE X TB W e g := (funext q : g = f) ▸ h
theorem SoT.cg {e : Expr} {f g : DEnv → R Bool} (h : SoT X TB W e f) (q : ∀ env, g env = f env) : SoT X TB W e g := (funext q : g = f) ▸ h
theorem SoA.cg {e : List Expr} {f g : DEnv → R (List PyData)} (h : SoA X TB W e f) (q : ∀ env, g env = f env) : SoA X TB W e g := (funext q : g = f) ▸ h
theorem SoP.cg {e : List Expr} {f g : DEnv → R (List PyData)} (h : SoP X TB W e f) (q : ∀ env, g env = f env) : SoP X TB W e g := (funext q : g = f) ▸ h
theorem SoW.cg {e : Expr} {f g : DEnv → R Bool} (h : SoW X TB W e f) (q : ∀ env, g env = f env) : SoW X TB W e g := (funext q : g = f) ▸ h
theorem SoTs.cg {e : List Expr} {f g : DEnv → R Bool} (h : SoTs X TB W e f) (q : ∀ env, g env = f env) : SoTs X TB W e g := (funext q : g = f) ▸ h
theorem SoO.cg {e : Option Expr} {f g : DEnv → R (Option Int)} (h : SoO X TB W e f) (q : ∀ env, g env = f env) : SoO X TB W e g := (funext q : g = f) ▸ h
theorem SoI.cg {t e : Expr} {f g : DEnv → R (List PyData)} (h : SoI X TB W t e f) (q : ∀ env, g env = f env) : SoI X TB W t e g := (funext q : g = f) ▸ h
/-! ### targets -/
theorem loc1 {fn : Str → Bool} {sc : Scope} {x : Str} (h : locB sc fn x = true) : L2.Loc sc x ∧ (fn x = true ∨ sc.names.lookup x = some .local) := by
  unfold locB at h
  split at h
  · exact ⟨.inl (by assumption), .inr (by assumption)⟩
  · exact ⟨.inr (by assumption), .inl h⟩
  · cases h
theorem okGs_len {C : CX} {sc : Scope} {fn : Str → Bool} : ∀ {gs : Tgs} {es : List Expr}, okGs C sc fn gs es = true → ∀ (env : Env) xs e e', bindTs gs xs e = some e' → xs.length = (assignEach es env).length
  | .nil, [], _, env, xs, e, e', q => by
    cases xs with
    | nil => rfl
    | cons _ _ => cases q
  | .nil, _ :: _, h, _, _, _, _, _ => by cases h
  | .cons _ _, [], h, _, _, _, _, _ => by cases h
  | .cons g gs, x :: es, h, env, xs, e, e', q => by
    simp only [okGs, Bool.and_eq_true] at h
    cases xs with
    | nil => cases q
    | cons y ys =>
      simp only [bindTs] at q
      have hl : (assignEach (x :: es) env).length = (assignEach es env).length + 1 := by
        cases x <;> rfl
      rw [hl, List.length_cons]
      split at q
      · rw [okGs_len h.2 env _ _ _ q]
      · cases q
theorem stars_asg {env : Env} : ∀ {es : List Expr}, stars es = true → (assignEach es env).findIdx? (·.1) = none
  | [], _ => rfl
  | e :: es, h => by
    unfold stars at h
    rw [Bool.and_eq_true] at h
    have hl : assignEach (e :: es) env = (false, assign e env) :: assignEach es env := by
      cases e <;> first | rfl | cases h.1
    rw [hl, List.findIdx?_cons, stars_asg h.2]
    rfl
theorem asg_cons {e : Expr} (h : notStar e = true) (es : List Expr) (env : Env) : (assignEach (e :: es) env).map (·.2) = assign e env :: (assignEach es env).map (·.2) := by cases e <;> first | rfl | cases h
mutual
theorem g_of {C : CX} {fn : Str → Bool} (hN : X.N = C.N) (nd : X.N.Nodup) (hc : X.calm = true) (hf : ∀ x, fn x = true → X.fn x = true) : ∀ (g : Tg) {e : Expr}, okG C X.env.scope fn g e = true → SoG X TB e g
  | .name i, e, h => by
    unfold okG at h
    split at h
    · simp only [Bool.and_eq_true, decide_eq_true_eq] at h
      obtain ⟨h1, h2⟩ := loc1 h.2
      exact so_gname nd (by rw [hN]; exact h.1) h1 (h2.imp (hf _) id)
    · cases h
  | .tup gs, e, h => by
    unfold okG at h
    split at h
    · simp only [Bool.and_eq_true] at h
      exact so_gtup hc (stars_asg h.2) (okGs_len h.1 _) (gs_of hN nd hc hf gs h.1)
    · cases h
theorem gs_of {C : CX} {fn : Str → Bool} (hN : X.N = C.N) (nd : X.N.Nodup) (hc : X.calm = true) (hf : ∀ x, fn x = true → X.fn x = true) : ∀ (gs : Tgs) {es : List Expr}, okGs C X.env.scope fn gs es = true → SoGs X TB es gs
  | .nil, es, h => by
    unfold okGs at h
    split at h
    · exact so_gnil
    · cases h
  | .cons g gs, es, h => by
    unfold okGs at h
    split at h
    · simp only [Bool.and_eq_true] at h
      exact so_gcons (asg_cons h.1.1 _ _) (g_of hN nd hc hf g h.1.2) (gs_of hN nd hc hf gs h.2)
    · cases h
end
end
end Wd
/-! Wd 17: a checked expression computes what its compact form tells. -/
namespace Wd
open PySem PySem.Spec PyProof.Rows L2
/-- a lambda's body of X under way -/
structure SubL (X Y : Cx) (sc : Scope) (k : Nat) : Prop where
  prog : Y.prog = X.prog
  w : Y.w = X.w
  K : Y.K = X.K
  mg : Y.mg = X.mg
  base : Y.base = X.base
  N : Y.N = X.N
  sco : Y.env.scope = sc
  calm : Y.calm = true
  gd : Y.A.guards = some []
  room : Room k Y.A
/-- what _law_told(lambda: ..) does -/
def ToldAt (C : CX) (TB : TL) (cr : Nat → Addr) (X : Cx) (W : WEx) (k : Nat) : Prop := ∀ (pr : Arguments) (bd : Expr) (sc : Scope) (p lp pos : Pos) (fe : DEnv → R PV), glB X.env.scope "_law_told" = true → parB pr = true → lamPB X.N X.env.scope pr sc = true → (∀ (Y : Cx) (W2 : WEx), SubL X Y sc k → L2N.Takes Y (WW cr W2) → SoE Y TB W2 bd fe) →
    SoE X TB W (.Call (.Name "_law_told" p) [.Lambda pr bd sc lp] [] pos) (fun e => toldR C.tnm e (fe (sealD e)))
/-- what a body's context knows of the module, for the checker's lists -/
structure Good (C : CX) (O : Orc) (TB : TL) (cr : Nat → Addr) (X : Cx) (W : WEx) : Prop where
  hN : X.N = C.N
  nd : X.N.Nodup
  calm : C.hot = false → X.calm = true
  gd : X.A.guards = some []
  un : X.A.units + 65 < cLine
  blts : ∀ x ∈ C.blts, X.mg x = none
  fns : ∃ k : Nat, (∀ (i : Nat) (q : Str × Nat), C.fns[i]? = some q → Room k X.A) ∧ (C.told = true → ToldAt C TB cr X W k) ∧ ∀ (i : Nat) (x : Str) (n : Nat), C.fns[i]? = some (x, n) → ∃ (f : Addr) (fd : FuncData) (ps : List Str), FnG X.prog X.w X.K X.mg X.base k f fd ps (spF X.K TB cr n (O.cf i)) ∧ Binds X.K fd ps [] ∧ X.mg x = some (.ref f) ∧ PySem.W.keepIn X.K (.ref f) = true
  glos : ∀ (k : Nat) (x : Str), C.glos[k]? = some x → ∃ d v u, O.glo[k]? = some d ∧ X.mg x = some u ∧ RelV v u ∧ ∀ H, Fz X.K H v d
  tk : L2N.Takes X (WW cr W)
section
variable {C : CX} {O : Orc} {TB : TL} {cr : Nat → Addr}
theorem Good.blk {X : Cx} {W : WEx} (G : Good C O TB cr X W) (s : Shared) (H : Hp) (scope : Scope) (env : Env) (fp : List Addr) : Good { C with told := false } O TB cr (X.blk s H scope env fp) noW := by
  obtain ⟨k, h1, _, h3⟩ := G.fns
  exact ⟨G.hN, G.nd, G.calm, G.gd, G.un, G.blts, ⟨k, h1, fun z => (by cases z), h3⟩, G.glos, takesN.imp fun c d σ H ⟨_, _, z⟩ => z⟩
theorem Good.sub {X Y : Cx} {W W2 : WEx} {sc : Scope} {k : Nat} (G : Good C O TB cr X W) (h3 : ∀ (i : Nat) (x : Str) (n : Nat), C.fns[i]? = some (x, n) → ∃ (f : Addr) (fd : FuncData) (ps : List Str), FnG X.prog X.w X.K X.mg X.base k f fd ps (spF X.K TB cr n (O.cf i)) ∧ Binds X.K fd ps [] ∧ X.mg x = some (.ref f) ∧ PySem.W.keepIn X.K (.ref f) = true)
    (S : SubL X Y sc k) (tk : L2N.Takes Y (WW cr W2)) : Good { C with told := false } O TB cr Y W2 := by
  have hr := S.room
  refine ⟨by rw [S.N]; exact G.hN, by rw [S.N]; exact G.nd, fun _ => S.calm, S.gd, ?_, by rw [S.mg]; exact G.blts, ⟨k, fun _ _ _ => hr, fun z => (by cases z), ?_⟩, ?_, tk⟩
  · have := hr.un
    exact Nat.lt_of_le_of_lt (Nat.add_le_add_left (by omega : 65 ≤ 16 * k + 200) _) (by rw [← Nat.add_assoc]; exact this)
  · rw [S.prog, S.w, S.K, S.mg, S.base]
    exact h3
  · rw [S.mg, S.K]
    exact G.glos
theorem gl1 {X : Cx} {x : Str} (h : glB X.env.scope x = true) : Gl X x := by
  have h2 : X.env.scope.names.lookup x = some .globalImplicit := by simpa [glB] using h
  exact h2
theorem star_list {X : Cx} {es : List Expr} (h : stars es = true) (env : Env) : starEach es env = es.map fun e => (false, eval e env) := by
  induction es with
  | nil => rfl
  | cons e es ih =>
    unfold stars at h
    rw [Bool.and_eq_true] at h
    rw [star_eq h.1, ih h.2]
    rfl
mutual
theorem e_of : ∀ (a : E) {C : CX} {X : Cx} {W : WEx} {e : Expr}, Good C O TB cr X W → okE C X.env.scope a e = true → SoE X TB W e (ev O a)
  | .var i, C, X, W, e, G, h => by
    unfold okE at h
    split at h
    · simp only [Bool.and_eq_true, decide_eq_true_eq] at h
      exact so_var (by rw [G.hN]; exact h.1.1) (vis1 h.1.2) (nm1 h.2).1 (nm1 h.2).2
    · cases h
  | .int i, C, X, W, e, G, h => by
    unfold okE at h
    split at h
    · simp only [decide_eq_true_eq] at h
      subst h
      exact so_int
    · cases h
  | .str i, C, X, W, e, G, h => by
    unfold okE at h
    split at h
    · simp only [decide_eq_true_eq] at h
      subst h
      exact so_str
    · cases h
  | .bl i, C, X, W, e, G, h => by
    unfold okE at h
    split at h
    · simp only [decide_eq_true_eq] at h
      subst h
      exact so_bl
    · cases h
  | .non, C, X, W, e, G, h => by
    unfold okE at h
    split at h
    · exact so_non
    · cases h
  | .glo k, C, X, W, e, G, h => by
    unfold okE at h
    split at h
    · simp only [Bool.and_eq_true, decide_eq_true_eq] at h
      obtain ⟨d, v, u, h1, h2, h3, h4⟩ := G.glos k _ h.1.1
      exact so_glo h1 (gl1 h.1.2) h2 h3 h4 (nm1 h.2).1
    · cases h
  | .bin o a b, C, X, W, e, G, h => by
    unfold okE at h
    split at h
    · simp only [Bool.and_eq_true, decide_eq_true_eq] at h
      obtain ⟨⟨rfl, h1⟩, h2⟩ := h
      exact (so_op (e_of a G h1) (e_of b G h2)).cg fun e => rfl
    · cases h
  | .rep a b, C, X, W, e, G, h => by
    unfold okE at h
    split at h
    · simp only [Bool.and_eq_true] at h
      exact (so_rep (e_of a G h.1) (e_of b G h.2)).cg fun e => rfl
    · cases h
  | .neg a, C, X, W, e, G, h => by
    unfold okE at h
    split at h
    · exact (so_neg (e_of a G h)).cg fun e => rfl
    · cases h
  | .cmp o a b, C, X, W, e, G, h => by
    unfold okE at h
    split at h
    · simp only [Bool.and_eq_true, decide_eq_true_eq] at h
      obtain ⟨⟨⟨rfl, h0⟩, h1⟩, h2⟩ := h
      exact (so_cmp G.un (behind_set h0) (e_of a G h1) (e_of b G h2)).cg fun e => rfl
    · cases h
  | .chain o p a b c, C, X, W, e, G, h => by
    unfold okE at h
    split at h
    · simp only [Bool.and_eq_true, decide_eq_true_eq] at h
      obtain ⟨⟨⟨⟨⟨rfl, rfl⟩, h0⟩, h1⟩, h2⟩, h3⟩ := h
      exact (so_chain G.un (behind_set h0) (e_of a G h1) (e_of b G h2) (e_of c G h3)).cg fun e => rfl
    · cases h
  | .ands es, C, X, W, e, G, h => by
    unfold okE at h
    split at h
    · exact (and_of es G h).cg fun e => rfl
    · cases h
  | .ors es, C, X, W, e, G, h => by
    unfold okE at h
    split at h
    · exact (or_of es G h).cg fun e => rfl
    · cases h
  | .nott a, C, X, W, e, G, h => by
    unfold okE at h
    split at h
    · exact (so_nottV (e_of a G h)).cg fun e => rfl
    · cases h
  | .ife c a b, C, X, W, e, G, h => by
    unfold okE at h
    split at h
    · simp only [Bool.and_eq_true] at h
      exact (so_ife (t_of c G h.1.1) (e_of a G h.1.2) (e_of b G h.2)).cg fun e => rfl
    · cases h
  | .tup es, C, X, W, e, G, h => by
    unfold okE at h
    split at h
    · exact (so_tup (dd_of es G h)).cg fun e => rfl
    · cases h
  | .lst es, C, X, W, e, G, h => by
    unfold okE at h
    split at h
    · exact (so_lst (dd_of es G h)).cg fun e => rfl
    · cases h
  | .idx a i, C, X, W, e, G, h => by
    unfold okE at h
    split at h
    · simp only [Bool.and_eq_true] at h
      exact (so_idx (plain_ix h.1.1) (e_of a G h.1.2) (e_of i G h.2)).cg fun e => rfl
    · cases h
  | .slc a lo hi, C, X, W, e, G, h => by
    unfold okE at h
    split at h
    · simp only [Bool.and_eq_true] at h
      exact (so_slc (e_of a G h.1.1) (o_of lo G h.1.2) (o_of hi G h.2)).cg fun e => rfl
    · cases h
  | .call f es, C, X, W, e, G, h => by
    unfold okE at h
    split at h
    · simp only [Bool.and_eq_true, decide_eq_true_eq] at h
      obtain ⟨⟨⟨h1, h2⟩, h3⟩, h4⟩ := h
      obtain ⟨k, hr0, hq, fns⟩ := G.fns
      have hr := hr0 _ _ h1
      obtain ⟨fa, fd, ps, F, hb, hm, hk⟩ := fns _ _ _ h1
      rename_i vs _
      have hs := okEs_stars h4
      cases vs with
      | nil =>
        cases es with
        | cons _ _ => cases h4
        | star _ _ => cases h4
        | nil => exact (so_call0 F hr G.gd hb G.tk (gl1 h2) hm hk (nm1 h3).1).cg fun e => rfl
      | cons v vs =>
        have hs2 := hs
        unfold stars at hs2
        rw [Bool.and_eq_true] at hs2
        exact (so_call F hr G.gd hb G.tk (gl1 h2) hm hk rfl (nm1 h3).1 (star_eq hs2.1 _ _) (stars_any hs2.2) (fun env xs env' q => evDs_len h4 q) (ds_of es G h4)).cg fun e => rfl
    · cases h
  | .callm f i es, C, X, W, e, G, h => by
    unfold okE at h
    split at h
    · simp only [Bool.and_eq_true, decide_eq_true_eq] at h
      obtain ⟨⟨⟨⟨⟨⟨h1, h2⟩, h3⟩, h4⟩, h5⟩, h6⟩, h7⟩ := h
      obtain ⟨k, hr0, hq, fns⟩ := G.fns
      have hr := hr0 _ _ h1
      obtain ⟨fa, fd, ps, F, hb, hm, hk⟩ := fns _ _ _ h1
      exact (so_callm F hr G.gd hb G.tk (gl1 h2) hm hk (by rw [G.hN]; exact h4) (vis1 h5) (nm1 h6).1 (nm1 h6).2 (nm1 h3).1 (stars_any (okEs_stars h7)) (fun env xs env' q => by rw [evDs_len h7 q]) (ds_of es G h7)).cg fun e => rfl
    · cases h
  | .blt b es, C, X, W, e, G, h => by
    unfold okE at h
    split at h
    · simp only [Bool.and_eq_true, decide_eq_true_eq] at h
      obtain ⟨⟨⟨⟨h0, h1⟩, h2⟩, h3⟩, h4⟩ := h
      have hs2 := okEs_stars h4
      unfold stars at hs2
      rw [Bool.and_eq_true] at hs2
      exact (so_blt (b := b) (fun q => G.calm (by simpa [q] using h0)) G.gd G.un h1 (gl1 h3) (G.blts _ h2) (star_eq hs2.1 _ _) (stars_any hs2.2) (ps_of es G h4)).cg fun e => rfl
    · cases h
  | .lc elt g it c own, C, X, W, e, G, h => by
    unfold okE at h
    split at h
    · rename_i q0
      split at h
      · rename_i ps hps
        simp only [Bool.and_eq_true, List.all_eq_true, decide_eq_true_eq, Bool.not_eq_true'] at h
        obtain ⟨⟨⟨⟨⟨⟨⟨h0, h1⟩, h2⟩, h3⟩, h4⟩, h5⟩, h6⟩, h7⟩ := h
        have calm := G.calm h0
        have e0 := ownP_map hps
        have L := so_lc (pos := q0) calm G.nd (LcOk.mk (X := X) (TB := TB) (W := W) (blkOk_by (by rw [G.hN]; exact h1)) (by rw [e0]; exact h3) (i_of it G h4) (fun s H Ca cl fp => g_of (X := X.blk s H _ (compEnvC _ cl Ca X.env) fp) G.hN G.nd calm (fun _ z => z) g h5)
          (fun s H Ca cl fp => c_of c (G.blk s H _ (compEnvC _ cl Ca X.env) fp) h6) (fun s H Ca cl fp => e_of elt (G.blk s H _ (compEnvC _ cl Ca X.env) fp) h7) (folded_set h2 _))
        rw [e0] at L
        exact L.cg fun e => rfl
      · cases h
    · cases h
  | .fmt a, C, X, W, e, G, h => by
    unfold okE at h
    split at h
    · exact (so_fmt (e_of a G h)).cg fun e => rfl
    · cases h
  | .told nm a, C, X, W, e, G, h => by
    unfold okE at h
    split at h
    · simp only [Bool.and_eq_true, decide_eq_true_eq] at h
      obtain ⟨⟨⟨⟨⟨⟨h1, rfl⟩, rfl⟩, h4⟩, h5⟩, h6⟩, h7⟩ := h
      rw [← G.hN] at h6
      obtain ⟨k, hr0, hq, fns⟩ := G.fns
      refine (hq h1 _ _ _ _ _ _ (ev O a) h4 h5 h6 fun Y W2 S tk => ?_).cg fun e => rfl
      have G2 := G.sub fns S tk
      rw [← S.sco] at h7
      exact e_of a G2 h7
    · cases h
  | .js es, C, X, W, e, G, h => by
    unfold okE at h
    split at h
    · exact (so_js (j_of es G h)).cg fun e => rfl
    · cases h
  | .m1 m a b, C, X, W, e, G, h => by
    unfold okE at h
    split at h
    · simp only [Bool.and_eq_true, decide_eq_true_eq] at h
      obtain ⟨⟨⟨⟨⟨rfl, h1⟩, h2⟩, h3⟩, h4⟩, h5⟩ := h
      exact (so_m1 h1 h2 (by rw [star_eq h3]; rfl) (e_of a G h4) (e_of b G h5)).cg fun e => rfl
    · cases h
  | .ml m a b, C, X, W, e, G, h => by
    unfold okE at h
    split at h
    · simp only [Bool.and_eq_true, decide_eq_true_eq] at h
      obtain ⟨⟨⟨⟨⟨rfl, h1⟩, h2⟩, h3⟩, h4⟩, h5⟩ := h
      exact (so_ml G.un h1 h2 (by rw [star_eq h3]; rfl) (e_of a G h4) (e_of b G h5)).cg fun e => rfl
    · cases h
  | .rev a, C, X, W, e, G, h => by
    unfold okE at h
    split at h
    · simp only [Bool.and_eq_true, decide_eq_true_eq] at h
      obtain ⟨rfl, h1⟩ := h
      exact (so_rev (e_of a G h1)).cg fun e => rfl
    · cases h
theorem j_of : ∀ (es : Es) {C : CX} {X : Cx} {W : WEx} {vs : List Expr}, Good C O TB cr X W → okEs C X.env.scope es vs = true → SoJ X TB W vs (fun acc e => evJ O es acc e)
  | .nil, C, X, W, vs, G, h => by
    unfold okEs at h
    split at h
    · have z := so_jnil (X := X) (TB := TB) (W := W)
      have q : (fun acc e => evJ O .nil acc e) = fun acc (e : DEnv) => R.ok (.val (.d (.str acc))) e := by
        funext acc e
        rfl
      rw [q]
      exact z
    · cases h
  | .cons a es, C, X, W, vs, G, h => by
    unfold okEs at h
    split at h
    · simp only [Bool.and_eq_true] at h
      have z := so_jcons (e_of a G h.1.2) (j_of es G h.2)
      have q : (fun acc e => evJ O (.cons a es) acc e) = (fun acc (e : DEnv) => (ev O a e).bind fun p e1 => match res p e1 with
          | some (.str y) => if (acc ++ y).length ≤ sizeLine then evJ O es (acc ++ y) e1 else .bad
          | _ => .bad) := by
        funext acc e
        rfl
      rw [q]
      exact z
    · cases h
  | .star _ _, C, X, W, vs, G, h => by
    unfold okEs at h
    cases h
theorem ds_of : ∀ (es : Es) {C : CX} {X : Cx} {W : WEx} {vs : List Expr}, Good C O TB cr X W → okEs C X.env.scope es vs = true → SoA X TB W vs (evDs O es)
  | .nil, C, X, W, vs, G, h => by
    unfold okEs at h
    split at h
    · exact so_nilA.cg fun e => rfl
    · cases h
  | .cons a es, C, X, W, vs, G, h => by
    unfold okEs at h
    split at h
    · simp only [Bool.and_eq_true] at h
      exact (so_consA (star_eq h.1.1 _ _) (e_of a G h.1.2) (ds_of es G h.2)).cg fun e => rfl
    · cases h
  | .star _ _, C, X, W, vs, G, h => by
    unfold okEs at h
    cases h
theorem dd_of : ∀ (es : Es) {C : CX} {X : Cx} {W : WEx} {vs : List Expr}, Good C O TB cr X W → okDs C X.env.scope es vs = true → SoA X TB W vs (evDs O es)
  | .nil, C, X, W, vs, G, h => by
    unfold okDs at h
    split at h
    · exact so_nilA.cg fun e => rfl
    · cases h
  | .cons a es, C, X, W, vs, G, h => by
    unfold okDs at h
    split at h
    · simp only [Bool.and_eq_true] at h
      exact (so_consA (star_eq h.1.1 _ _) (e_of a G h.1.2) (dd_of es G h.2)).cg fun e => rfl
    · cases h
  | .star a es, C, X, W, vs, G, h => by
    unfold okDs at h
    split at h
    · simp only [Bool.and_eq_true] at h
      exact (so_starA (e_of a G h.1) (dd_of es G h.2)).cg fun e => rfl
    · cases h
theorem ps_of : ∀ (es : Es) {C : CX} {X : Cx} {W : WEx} {vs : List Expr}, Good C O TB cr X W → okEs C X.env.scope es vs = true → SoP X TB W vs (evPs O es)
  | .nil, C, X, W, vs, G, h => by
    unfold okEs at h
    split at h
    · exact so_nilP.cg fun e => rfl
    · cases h
  | .cons a es, C, X, W, vs, G, h => by
    unfold okEs at h
    split at h
    · simp only [Bool.and_eq_true] at h
      exact (so_consP (star_eq h.1.1 _ _) (e_of a G h.1.2) (ps_of es G h.2)).cg fun e => rfl
    · cases h
  | .star _ _, C, X, W, vs, G, h => by
    unfold okEs at h
    cases h
theorem and_of : ∀ (es : Es) {C : CX} {X : Cx} {W : WEx} {vs : List Expr} {pos : Pos}, Good C O TB cr X W → okBs C X.env.scope es vs = true → SoE X TB W (.BoolOp .And vs pos) (evAnd O es)
  | .nil, C, X, W, vs, pos, G, h => by
    unfold okBs at h
    cases h
  | .cons a .nil, C, X, W, vs, pos, G, h => by
    simp only [okBs] at h
    split at h
    · exact (so_one (e_of a G h)).cg fun e => rfl
    · cases h
  | .cons a (.cons b es), C, X, W, vs, pos, G, h => by
    unfold okBs at h
    dsimp only at h
    split at h
    · simp only [Bool.and_eq_true] at h
      exact (so_andV (e_of a G h.1) (and_of (.cons b es) G h.2)).cg fun e => rfl
    · cases h
  | .star _ _, C, X, W, vs, pos, G, h => by
    unfold okBs at h
    cases h
  | .cons a (.star b es), C, X, W, vs, pos, G, h => by
    unfold okBs at h
    dsimp only at h
    split at h
    · simp only [Bool.and_eq_true] at h
      have z := h.2
      unfold okBs at z
      cases z
    · cases h
theorem or_of : ∀ (es : Es) {C : CX} {X : Cx} {W : WEx} {vs : List Expr} {pos : Pos}, Good C O TB cr X W → okBs C X.env.scope es vs = true → SoE X TB W (.BoolOp .Or vs pos) (evOr O es)
  | .nil, C, X, W, vs, pos, G, h => by
    unfold okBs at h
    cases h
  | .cons a .nil, C, X, W, vs, pos, G, h => by
    simp only [okBs] at h
    split at h
    · exact (so_one (e_of a G h)).cg fun e => rfl
    · cases h
  | .cons a (.cons b es), C, X, W, vs, pos, G, h => by
    unfold okBs at h
    dsimp only at h
    split at h
    · simp only [Bool.and_eq_true] at h
      exact (so_orV (e_of a G h.1) (or_of (.cons b es) G h.2)).cg fun e => rfl
    · cases h
  | .star _ _, C, X, W, vs, pos, G, h => by
    unfold okBs at h
    cases h
  | .cons a (.star b es), C, X, W, vs, pos, G, h => by
    unfold okBs at h
    dsimp only at h
    split at h
    · simp only [Bool.and_eq_true] at h
      have z := h.2
      unfold okBs at z
      cases z
    · cases h
theorem o_of : ∀ (a : Eo) {C : CX} {X : Cx} {W : WEx} {e : Option Expr}, Good C O TB cr X W → okO C X.env.scope a e = true → SoO X TB W e (evO O a)
  | .no, C, X, W, e, G, h => by
    unfold okO at h
    split at h
    · exact so_noO.cg fun e => rfl
    · cases h
  | .so a, C, X, W, e, G, h => by
    unfold okO at h
    split at h
    · exact (so_soO (e_of a G h)).cg fun e => rfl
    · cases h
theorem t_of : ∀ (t : T) {C : CX} {X : Cx} {W : WEx} {e : Expr}, Good C O TB cr X W → okT C X.env.scope t e = true → SoT X TB W e (evT O t)
  | .tru a, C, X, W, e, G, h => by
    simp only [okT, Bool.and_eq_true] at h
    exact (so_tru (plain_t h.1 _) (e_of a G h.2)).cg fun e => rfl
  | .cmp o a b, C, X, W, e, G, h => by
    unfold okT at h
    split at h
    · simp only [Bool.and_eq_true, decide_eq_true_eq] at h
      obtain ⟨⟨⟨rfl, h0⟩, h1⟩, h2⟩ := h
      exact (so_cmpT G.un (behind_set h0) (e_of a G h1) (e_of b G h2)).cg fun e => rfl
    · cases h
  | .chain o p a b c, C, X, W, e, G, h => by
    unfold okT at h
    split at h
    · simp only [Bool.and_eq_true, decide_eq_true_eq] at h
      obtain ⟨⟨⟨⟨⟨rfl, rfl⟩, h0⟩, h1⟩, h2⟩, h3⟩ := h
      exact (so_chainT G.un (behind_set h0) (e_of a G h1) (e_of b G h2) (e_of c G h3)).cg fun e => rfl
    · cases h
  | .ands ts, C, X, W, e, G, h => by
    unfold okT at h
    split at h
    · exact ((wand_of ts G h).pt).cg fun e => rfl
    · cases h
  | .ors ts, C, X, W, e, G, h => by
    unfold okT at h
    split at h
    · exact ((wor_of ts G h).pt).cg fun e => rfl
    · cases h
  | .nott t, C, X, W, e, G, h => by
    unfold okT at h
    split at h
    · exact (so_not (t_of t G h)).cg fun e => rfl
    · cases h
theorem wand_of : ∀ (ts : Ts) {C : CX} {X : Cx} {W : WEx} {vs : List Expr} {pos : Pos}, Good C O TB cr X W → okW C X.env.scope ts vs = true → SoW X TB W (.BoolOp .And vs pos) (evTs O ts)
  | .nil, C, X, W, vs, pos, G, h => by
    unfold okW at h
    cases h
  | .cons a .nil, C, X, W, vs, pos, G, h => by
    simp only [okW] at h
    split at h
    · exact (so_and1 (t_of a G h)).cg fun e => rfl
    · cases h
  | .cons a (.cons b es), C, X, W, vs, pos, G, h => by
    unfold okW at h
    dsimp only at h
    split at h
    · simp only [Bool.and_eq_true] at h
      exact (so_and (t_of a G h.1) (wand_of (.cons b es) G h.2)).cg fun e => rfl
    · cases h
theorem wor_of : ∀ (ts : Ts) {C : CX} {X : Cx} {W : WEx} {vs : List Expr} {pos : Pos}, Good C O TB cr X W → okW C X.env.scope ts vs = true → SoW X TB W (.BoolOp .Or vs pos) (evTo O ts)
  | .nil, C, X, W, vs, pos, G, h => by
    unfold okW at h
    cases h
  | .cons a .nil, C, X, W, vs, pos, G, h => by
    simp only [okW] at h
    split at h
    · exact (so_or1 (t_of a G h)).cg fun e => rfl
    · cases h
  | .cons a (.cons b es), C, X, W, vs, pos, G, h => by
    unfold okW at h
    dsimp only at h
    split at h
    · simp only [Bool.and_eq_true] at h
      exact (so_or (t_of a G h.1) (wor_of (.cons b es) G h.2)).cg fun e => rfl
    · cases h
theorem c_of : ∀ (ts : Ts) {C : CX} {X : Cx} {W : WEx} {vs : List Expr}, Good C O TB cr X W → okTs C X.env.scope ts vs = true → SoTs X TB W vs (evTs O ts)
  | .nil, C, X, W, vs, G, h => by
    unfold okTs at h
    split at h
    · exact so_tsnil.cg fun e => rfl
    · cases h
  | .cons a .nil, C, X, W, vs, G, h => by
    simp only [okTs] at h
    split at h
    · exact (so_tsone (t_of a G h)).cg fun e => rfl
    · cases h
  | .cons a (.cons b es), C, X, W, vs, G, h => by
    unfold okTs at h
    cases h
theorem i_of : ∀ (it : I) {C : CX} {X : Cx} {W : WEx} {tg e : Expr}, Good C O TB cr X W → okI C X.env.scope it tg e = true → SoI X TB W tg e (evI O it)
  | .data a, C, X, W, tg, e, G, h => by
    unfold okI at h
    exact (so_data (e_of a G h)).cg fun e => rfl
  | .rng1 a, C, X, W, tg, e, G, h => by
    unfold okI at h
    split at h
    · simp only [Bool.and_eq_true, decide_eq_true_eq] at h
      obtain ⟨⟨⟨⟨rfl, h1⟩, h2⟩, h3⟩, h4⟩ := h
      exact (so_rng1 (gl1 h2) (G.blts _ h1) (star_eq h3 _ _) (e_of a G h4)).cg fun e => rfl
    · cases h
  | .rng2 a b, C, X, W, tg, e, G, h => by
    unfold okI at h
    split at h
    · simp only [Bool.and_eq_true, decide_eq_true_eq] at h
      obtain ⟨⟨⟨⟨⟨⟨rfl, h1⟩, h2⟩, h3⟩, h3'⟩, h4⟩, h5⟩ := h
      exact (so_rng2 (gl1 h2) (G.blts _ h1) (by rw [star_eq h3, star_eq h3']; rfl) (star_eq h3' _ _) (e_of a G h4) (e_of b G h5)).cg fun e => rfl
    · cases h
  | .enum es, C, X, W, tg, e, G, h => by
    unfold okI at h
    split at h
    · simp only [Bool.and_eq_true, decide_eq_true_eq] at h
      obtain ⟨⟨⟨⟨rfl, h1⟩, h2⟩, h3⟩, h4⟩ := h
      exact (so_enum (gl1 h2) (G.blts _ h1) (star_eq h3 _ _) (ds_of es G h4)).cg fun e => rfl
    · cases h
  | .zip es, C, X, W, tg, e, G, h => by
    unfold okI at h
    split at h
    · simp only [Bool.and_eq_true, decide_eq_true_eq] at h
      obtain ⟨⟨⟨⟨⟨rfl, h1⟩, h2⟩, h3⟩, h3'⟩, h4⟩ := h
      exact (so_zip (gl1 h2) (G.blts _ h1) (star_eq h3 _ _) (by rw [star_eq h3']; rfl) (ds_of es G h4)).cg fun e => rfl
    · cases h
end
/-- a comprehension's parts -/
theorem lcok_of {X : Cx} {W : WEx} {elt : E} {g : Tg} {it : I} {c : Ts} {own : List Nat} {el : Expr} {cm : Comprehension} {scope : Scope} {pos : Pos} (G : Good C O TB cr X W) (h : okE C X.env.scope (.lc elt g it c own) (.ListComp el [cm] scope pos) = true) :
    ∃ ps : List (Str × Nat), ps.map (·.2) = own ∧ ∃ tg iter ifs, cm = ⟨tg, iter, ifs, 0⟩ ∧ LcOk X TB W el tg iter ifs scope ps g (evI O it) (evTs O c) (ev O elt) := by
  unfold okE at h
  split at h
  · rename_i q0 e0
    cases e0
    split at h
    · rename_i ps hps
      simp only [Bool.and_eq_true, List.all_eq_true, decide_eq_true_eq, Bool.not_eq_true'] at h
      obtain ⟨⟨⟨⟨⟨⟨⟨h0, h1⟩, h2⟩, h3⟩, h4⟩, h5⟩, h6⟩, h7⟩ := h
      have calm := G.calm h0
      have e0 := ownP_map hps
      exact ⟨ps, e0, _, _, _, rfl, LcOk.mk (X := X) (TB := TB) (W := W) (blkOk_by (by rw [G.hN]; exact h1)) (by rw [e0]; exact h3) (i_of it G h4) (fun s H Ca cl fp => g_of (X := X.blk s H _ (compEnvC _ cl Ca X.env) fp) G.hN G.nd calm (fun _ z => z) g h5)
          (fun s H Ca cl fp => c_of c (G.blk s H _ (compEnvC _ cl Ca X.env) fp) h6) (fun s H Ca cl fp => e_of elt (G.blk s H _ (compEnvC _ cl Ca X.env) fp) h7) (folded_set h2 _)⟩
    · cases h
  · cases h
end
end Wd
/-! Wd 18: statements, checked. -/
namespace Wd
open PySem PySem.Spec PyProof.Rows L2
/-! ### stores -/
theorem swp_no {e : Expr} (h : notComp e = true) (t : Option Expr) (l : Nat) (env : Env) : swapsWith e t l env = pure false := by
  cases e <;> first | rfl | cases h
theorem sole (t e : Expr) (l : Nat) (env : Env) : swapsWithSole [t] e l env = swapsWith e (some t) l env := rfl
/-- x = [..]: stored before the list is whole -/
def swLc (sc scope : Scope) (x : Str) (px pv : Pos) : Bool := (sc.names.lookup x == some .local) && (px.line == pv.line) && !(scope.names.any fun (n, k) => n == x && (k == .local || k == .cell))
theorem swLc_eq {elt : Expr} {gs : List Comprehension} {scope : Scope} {pos py : Pos} {y : Str} {l : Nat} {env : Env} (hk : env.scope.kind = .function) : swapsWith (.ListComp elt gs scope pos) (some (.Name y py)) l env = pure (swLc env.scope scope y py pos) := by
  have e : swapsWith (.ListComp elt gs scope pos) (some (.Name y py)) l env = pure (env.blockKind == .function && env.kindOf y == some .local && py.line == pos.line && !(scope.names.any fun (n, k) => n == y && (k == .local || k == .cell))) := rfl
  have hb : env.blockKind = .function := by unfold Env.blockKind; rw [hk]; rfl
  rw [e, hb]
  rfl
def swNames (ts : List Expr) (sc : Scope) : List Str := ts.filterMap fun
    | .Name id pos => if sc.names.lookup id == some .local && pos.line == (ts.head?.map (·.pos.line)).getD 0 then some id else none
    | _ => none
def swAns (ts vs : List Expr) (sc : Scope) : Option (Option (List Str)) :=
  if !(ts.length == 2 || ts.length == 3) || vs.length != ts.length then some none
  else if (vs.any fun | .Starred .. => true | _ => false) then some none
  else if (swNames ts sc).length != ts.length || (swNames ts sc).eraseDups.length != (swNames ts sc).length then some none
  else if vs.all (foldedForSure 8) then some none
  else if vs.all (constantsAlone 8) then none
  else some (some (swNames ts sc))
theorem swAns_ok {ts vs : List Expr} {env : Env} {k k2 : Nat} {p p2 : Pos} {r : Option (List Str)} (hk : env.scope.kind = .function) (h : swAns ts vs env.scope = some r) : swappedStores [.Tuple ts k p] (.Tuple vs k2 p2) env = pure r := by
  have hb : env.blockKind = .function := by unfold Env.blockKind; rw [hk]; rfl
  have e : swappedStores [.Tuple ts k p] (.Tuple vs k2 p2) env = (if !(ts.length == 2 || ts.length == 3) || vs.length != ts.length || env.blockKind != .function then pure none
    else if (vs.any fun | .Starred .. => true | _ => false) then pure none
    else if (swNames ts env.scope).length != ts.length || (swNames ts env.scope).eraseDups.length != (swNames ts env.scope).length then pure none
    else if vs.all (foldedForSure 8) then pure none
    else if vs.all (constantsAlone 8) then unsupported "assign.tuple-of-constant-expressions:order-of-the-stores"
    else pure (some (swNames ts env.scope))) := rfl
  rw [e, hb]
  unfold swAns at h
  have h0 : (ScopeKind.function != ScopeKind.function) = false := rfl
  rw [h0, Bool.or_false]
  split at h
  · rename_i c
    cases h
    rw [if_pos c]
  · rename_i c
    rw [if_neg c]
    split at h
    · rename_i c
      cases h
      rw [if_pos c]
    · rename_i c
      rw [if_neg c]
      split at h
      · rename_i c
        cases h
        rw [if_pos c]
      · rename_i c
        rw [if_neg c]
        split at h
        · rename_i c
          cases h
          rw [if_pos c]
        · rename_i c
          rw [if_neg c]
          split at h
          · cases h
          · rename_i c
            cases h
            rw [if_neg c]
/-- a, b, c = .. with plain local names -/
theorem so_par3 {X : Cx} {TB : TL} {W : WEx} {H0 : Hp} {M : Option Addr} {i j l : Nat} {x y z : Str} {a b c : Expr} {px py pz pt pos : Pos} {kt k2 : Nat} {pt2 : Pos} {fs : DEnv → R (List DV)} (hc : X.calm = true) (hN : X.N.Nodup) (hi : X.N[i]? = some x) (hj : X.N[j]? = some y) (hl : X.N[l]? = some z) (hij : i ≠ j) (hil : i ≠ l) (hjl : j ≠ l)
    (hx : X.env.scope.names.lookup x = some .local) (hy : X.env.scope.names.lookup y = some .local) (hz : X.env.scope.names.lookup z = some .local) (hw : swappedStores [.Tuple [.Name x px, .Name y py, .Name z pz] kt pt] (.Tuple [a, b, c] k2 pt2) X.env = pure (some [x, y, z]))
    (hm : 0 ∉ [i, j, l] ∨ M = none) (ha : SoV X TB W [a, b, c] fs) : SoS X TB W H0 M (.Assign [.Tuple [.Name x px, .Name y py, .Name z pz] kt pt] (.Tuple [a, b, c] k2 pt2) pos) (parF [i, j, l] fs) := by
  obtain ⟨t, p, s⟩ := ha
  refine ⟨_, ps_par3 hc hN hi hj hl hij hil hjl hx hy hz p hw, fun D σ H env i' k => ?_⟩
  show t σ H fun vs H1 => ∃ u v w, vs = [u, v, w] ∧ D.nx (((σ.set i (some u)).set j (some v)).set l (some w)) H1
  refine use_snd s i' k fun ds env1 vs H1 hfe e1 r i1 k1 => ?_
  cases hq : setAll [i, j, l] ds env1 with
  | none => rw [hq] at k1; exact k1.elim
  | some env2 =>
    rw [hq] at k1
    have hl := setAll_len hq
    have hv := r.length
    have fin := par_fin i' e1 r hm hq
    have h2 : vs.length = 3 := by rw [hv, ← hl]; rfl
    obtain ⟨u, v, w, e⟩ : ∃ u v w, vs = [u, v, w] := by
      match vs, h2 with
      | [u, v, w], _ => exact ⟨u, v, w, rfl⟩
    subst e
    exact ⟨u, v, w, rfl, k1 _ H1 (Stay.refl _) fin⟩
/-- a def's context -/
structure GoodS (C : CX) (O : Orc) (TB : TL) (cr : Nat → Addr) (X : Cx) (W : WEx) : Prop where
  calm : X.calm = true
  g : Good C O TB cr X W
  fn : ∀ x, X.fn x = true
  po : PassesOwn (model X.prog X.w) X.A X.env X.xe
  kind : X.env.scope.kind = .function
  excs : ∀ (k : Nat) (x : Str), C.excs[k]? = some x → X.mg x = some (.ref (cr k)) ∧ PySem.W.keepIn X.K (.ref (cr k)) = true ∧ PySem.W.excIn X.K (cr k) He.veBase "ValueError.__new__" = true ∧ Raises X (.ref (cr k))
theorem listSub_assign {x : Str} {px psub : Pos} {ix : Expr} (h : notSl ix = true) (env : Env) (v : Value) : assign (.Subscript (.Name x px) ix psub) env v = (do
      let ov ← holding [v] (eval (.Name x px) env)
      let iv ← holding [v, ov] (eval ix env)
      standAt psub
      holding [v, ov, iv] (setItem ov iv v)
      release [v, ov, iv] []) := by
  cases ix <;> first | rfl | cases h
/-! ### the checker -/
def fT : Str → Bool := fun _ => true
def pos0 (mt : Bool) (is : List Nat) : Bool := !mt || decide (0 ∉ is)
mutual
/-- fresh values in a row -/
def okNs (C : CX) (sc : Scope) : List Nat → List Expr → Bool
  | [], es => es.isEmpty
  | i :: is, es => match es with
    | .Name x _ :: es => decide (C.N[i]? = some x) && locB sc fT x && okNs C sc is es
    | _ => false
end
def lcB (sc : Scope) (x : Str) : Bool := decide (sc.names.lookup x = some .local)
/-- a, b = ..: how it is stored -/
def okPar (C : CX) (sc : Scope) (is : List Nat) (ts vs : List Expr) : Bool := match swAns ts vs sc with
  | none => false
  | some none => okNs C sc is ts && stars ts && decide (is.length ≤ sizeLine)
  | some (some ns) => match is, ts with
    | [i, j], [.Name x _, .Name y _] => decide (ns = [x, y]) && decide (C.N[i]? = some x) && decide (C.N[j]? = some y) && decide (i ≠ j) && lcB sc x && lcB sc y
    | [i, j, l], [.Name x _, .Name y _, .Name z _] => decide (ns = [x, y, z]) && decide (C.N[i]? = some x) && decide (C.N[j]? = some y) && decide (C.N[l]? = some z) && decide (i ≠ j) && decide (i ≠ l) && decide (j ≠ l) && lcB sc x && lcB sc y && lcB sc z
    | _, _ => false
def isTup : Expr → Bool
  | .Tuple .. => true
  | _ => false
mutual
def okS (C : CX) (sc : Scope) (mt : Bool) : S → Stmt → Bool
  | .set i c, s => match s with
    | .Assign [.Name x px] e _ => decide (C.N[i]? = some x) && locB sc fT x && pos0 mt [i] && okE C sc c e && (notComp e || (match c, e with
      | .lc .., .ListComp _ [_] scope pv => true
      | _, _ => false))
    | _ => false
  | .par is es, s => match s with
    | .Assign [.Tuple ts _ _] (.Tuple vs _ _) _ => okPar C sc is ts vs && pos0 mt is && okEs C sc es vs
    | _ => false
  | .unp g c, s => match s with
    | .Assign [.Tuple ts k p] e _ => notComp e && !isTup e && pos0 mt (tgs g) && okG C sc fT g (.Tuple ts k p) && okE C sc c e
    | _ => false
  | .seti i ix c, s => match s with
    | .Assign [.Subscript (.Name x _) y _] e _ => decide (C.N[i]? = some x) && visB sc x && nmOk x && notSl y && notComp e && okE C sc ix y && okE C sc c e
    | _ => false
  | .app i c, s => match s with
    | .Expr (.Call (.Attribute (.Name x _) m pa) [e] [] pc) _ => decide (m = "append") && decide (C.N[i]? = some x) && visB sc x && nmOk x && notStar e && (pa.endLine == pc.line) && okE C sc c e
    | _ => false
  | .ext i c, s => match s with
    | .Expr (.Call (.Attribute (.Name x _) m pa) [e] [] pc) _ => decide (m = "extend") && decide (C.N[i]? = some x) && visB sc x && nmOk x && notStar e && (pa.endLine == pc.line) && okE C sc c e
    | _ => false
  | .expr c, s => match s with
    | .Expr e _ => notComp e && okE C sc c e
    | _ => false
  | .ifs c a b, s => match s with
    | .If t x y _ => okT C sc c t && okSs C sc mt a x && okSs C sc mt b y
    | _ => false
  | .fors g it body, s => match s with
    | .For tg iter ss [] _ => notSet iter && pos0 mt (tgs g) && okG C sc fT g tg && okI C sc it tg iter && okSs C sc mt body ss
    | _ => false
  | .whl c body, s => match s with
    | .While t ss [] _ => okT C sc c t && okSs C sc mt body ss
    | _ => false
  | .ret c, s => match s with
    | .Return (some e) _ => okE C sc c e
    | _ => false
  | .retn, s => match s with
    | .Return none _ => true
    | _ => false
  | .rais k, s => match s with
    | .Raise (some (.Call (.Name x _) [.Constant (.str _) _ _] [] _)) none _ => decide (C.excs[k]? = some x) && glB sc x && nmOk x
    | _ => false
  | .brk, s => match s with
    | .Break _ => true
    | _ => false
  | .cont, s => match s with
    | .Continue _ => true
    | _ => false
  | .pass, s => match s with
    | .Pass _ => true
    | _ => false
def okSs (C : CX) (sc : Scope) (mt : Bool) : Ss → List Stmt → Bool
  | .nil, ss => ss.isEmpty
  | .cons a b, ss => match ss with
    | s :: ss => okS C sc mt a s && okSs C sc mt b ss
    | _ => false
end
section
variable {C : CX} {O : Orc} {TB : TL} {cr : Nat → Addr}
theorem SoS.cg {X : Cx} {W : WEx} {H0 : Hp} {M : Option Addr} {s : Stmt} {f g : DEnv → R Fl} (h : SoS X TB W H0 M s f) (q : ∀ env, g env = f env) : SoS X TB W H0 M s g := (funext q : g = f) ▸ h
theorem SoB.cg {X : Cx} {W : WEx} {H0 : Hp} {M : Option Addr} {s : List Stmt} {f g : DEnv → R Fl} (h : SoB X TB W H0 M s f) (q : ∀ env, g env = f env) : SoB X TB W H0 M s g := (funext q : g = f) ▸ h
theorem SoV.cg {X : Cx} {W : WEx} {es : List Expr} {f g : DEnv → R (List DV)} (h : SoV X TB W es f) (q : ∀ env, g env = f env) : SoV X TB W es g := (funext q : g = f) ▸ h
/-- the list that a def may change is its first argument -/
def MOk (mt : Bool) (M : Option Addr) : Prop := mt = false → M = none
theorem pos0_ok {mt : Bool} {M : Option Addr} {is : List Nat} (h : pos0 mt is = true) (m : MOk mt M) : 0 ∉ is ∨ M = none := by
  cases mt with
  | false => exact .inr (m rfl)
  | true => exact .inl (by simpa [pos0] using h)
theorem vs_of : ∀ (es : Es) {X : Cx} {W : WEx} {vs : List Expr}, Good C O TB cr X W → okEs C X.env.scope es vs = true → SoV X TB W vs (evVs O es)
  | .nil, X, W, vs, G, h => by
    unfold okEs at h
    split at h
    · exact so_nilV.cg fun e => rfl
    · cases h
  | .cons a es, X, W, vs, G, h => by
    unfold okEs at h
    split at h
    · simp only [Bool.and_eq_true] at h
      exact (so_consV (star_eq h.1.1 _ _) (e_of a G h.1.2) (vs_of es G h.2)).cg fun e => rfl
    · cases h
  | .star _ _, X, W, vs, G, h => by
    unfold okEs at h
    cases h
theorem ns_of {X : Cx} {W : WEx} (G : GoodS C O TB cr X W) : ∀ (is : List Nat) {es : List Expr}, okNs C X.env.scope is es = true → SoNs X es is
  | [], [], h => so_nsnil
  | [], _ :: _, h => by
    unfold okNs at h
    cases h
  | i :: is, es, h => by
    unfold okNs at h
    split at h
    · simp only [Bool.and_eq_true, decide_eq_true_eq] at h
      exact so_nscons G.g.nd (by rw [G.g.hN]; exact h.1.1) (loc1 h.1.2).1 (.inl (G.fn _)) (ns_of G is h.2)
    · cases h
theorem ns_len {sc : Scope} : ∀ {is : List Nat} {es : List Expr}, okNs C sc is es = true → ∀ env : Env, (assignEach es env).length = is.length
  | [], [], h, env => rfl
  | [], _ :: _, h, env => by
    unfold okNs at h
    cases h
  | i :: is, es, h, env => by
    unfold okNs at h
    split at h
    · simp only [Bool.and_eq_true] at h
      show (assignEach _ env).length + 1 = is.length + 1
      rw [ns_len h.2]
    · cases h
theorem par_of {X : Cx} {W : WEx} {H0 : Hp} {M : Option Addr} {is : List Nat} {ts vs : List Expr} {k k2 : Nat} {p p2 pos : Pos} {fs : DEnv → R (List DV)} (G : GoodS C O TB cr X W) (h : okPar C X.env.scope is ts vs = true) (hm : 0 ∉ is ∨ M = none) (ha : SoV X TB W vs fs) : SoS X TB W H0 M (.Assign [.Tuple ts k p] (.Tuple vs k2 p2) pos) (parF is fs) := by
  unfold okPar at h
  split at h
  · cases h
  · rename_i q
    simp only [Bool.and_eq_true, decide_eq_true_eq] at h
    exact so_part G.calm (stars_asg h.1.2) (ns_len h.1.1 _) (swAns_ok G.kind q) rfl rfl hm h.2 (ns_of G is h.1.1) ha
  · rename_i ns q
    split at h
    · simp only [Bool.and_eq_true, decide_eq_true_eq, lcB] at h
      obtain ⟨⟨⟨⟨⟨rfl, h1⟩, h2⟩, h3⟩, h4⟩, h5⟩ := h
      rw [← G.g.hN] at h1 h2
      have e2 : ∃ a b, vs = [a, b] := by
        have q' := q
        unfold swAns at q'
        split at q'
        · cases q'
        · rename_i c
          match vs, c with
          | [], c => simp at c
          | [_], c => simp at c
          | [a, b], c => exact ⟨a, b, rfl⟩
          | _ :: _ :: _ :: _, c => simp at c
      obtain ⟨a, b, rfl⟩ := e2
      exact so_par2 G.calm G.g.nd h1 h2 h3 h4 h5 (swAns_ok G.kind q) rfl hm ha
    · simp only [Bool.and_eq_true, decide_eq_true_eq, lcB] at h
      obtain ⟨⟨⟨⟨⟨⟨⟨⟨⟨rfl, h1⟩, h2⟩, h3⟩, h4⟩, h5⟩, h6⟩, h7⟩, h8⟩, h9⟩ := h
      rw [← G.g.hN] at h1 h2 h3
      have e2 : ∃ a b c, vs = [a, b, c] := by
        have q' := q
        unfold swAns at q'
        split at q'
        · cases q'
        · rename_i c
          match vs, c with
          | [], c => simp at c
          | [_], c => simp at c
          | [_, _], c => simp at c
          | [a, b, d], c => exact ⟨a, b, d, rfl⟩
          | _ :: _ :: _ :: _ :: _, c => simp at c
      obtain ⟨a, b, c, rfl⟩ := e2
      exact so_par3 G.calm G.g.nd h1 h2 h3 h4 h5 h6 h7 h8 h9 (swAns_ok G.kind q) hm ha
    · cases h
mutual
theorem s_of : ∀ (a : S) {mt : Bool} {X : Cx} {W : WEx} {H0 : Hp} {M : Option Addr} {s : Stmt}, GoodS C O TB cr X W → MOk mt M → okS C X.env.scope mt a s = true → SoS X TB W H0 M s (exS O a)
  | .set i c, mt, X, W, H0, M, s, G, m, h => by
    unfold okS at h
    split at h
    · rename_i x0 px0 e0 ps0
      simp only [Bool.and_eq_true, decide_eq_true_eq] at h
      obtain ⟨⟨⟨⟨h1, h2⟩, h3⟩, h4⟩, h5⟩ := h
      rw [← G.g.hN] at h1
      have hm : i ≠ 0 ∨ M = none := (pos0_ok h3 m).imp (fun z e => z (by simp [e])) id
      rcases Bool.or_eq_true_iff.mp h5 with h5 | h5
      · exact (so_set G.g.nd h1 (loc1 h2).1 (.inl (G.fn _)) (swp_no h5 _ _ _) hm (e_of c G.g h4)).cg fun e => rfl
      · split at h5
        · rename_i elt g it cc own el cm scope pv _
          cases hsw : swLc X.env.scope scope _ _ pv with
          | false => exact (so_set G.g.nd h1 (loc1 h2).1 (.inl (G.fn _)) (by rw [swLc_eq G.kind, hsw]) hm (e_of _ G.g h4)).cg fun e => rfl
          | true =>
            have hlc : X.env.scope.names.lookup x0 = some .local := by
              have z := hsw
              simp only [swLc, Bool.and_eq_true] at z
              simpa using z.1.1
            obtain ⟨ps, e0, tg, iter, ifs, rfl, L⟩ := lcok_of G.g h4
            have z := so_setlc (H0 := H0) (spos := ps0) G.calm G.g.nd h1 hlc (by rw [swLc_eq G.kind, hsw]) hm L
            rw [e0] at z
            exact z.cg fun e => rfl
        · cases h5
    · cases h
  | .par is es, mt, X, W, H0, M, s, G, m, h => by
    unfold okS at h
    split at h
    · simp only [Bool.and_eq_true] at h
      exact (par_of G h.1.1 (pos0_ok h.1.2 m) (vs_of es G.g h.2)).cg fun e => rfl
    · cases h
  | .unp g c, mt, X, W, H0, M, s, G, m, h => by
    unfold okS at h
    split at h
    · simp only [Bool.and_eq_true, Bool.not_eq_true'] at h
      obtain ⟨⟨⟨⟨h1, h2⟩, h3⟩, h4⟩, h5⟩ := h
      exact (so_unp ((sole _ _ _ _).trans (swp_no h1 _ _ _)) (by rename_i e _; cases e <;> first | rfl | cases h2) rfl (pos0_ok h3 m) (g_of G.g.hN G.g.nd G.calm (fun x _ => G.fn x) g h4) (e_of c G.g h5)).cg fun e => rfl
    · cases h
  | .seti i ix c, mt, X, W, H0, M, s, G, m, h => by
    unfold okS at h
    split at h
    · simp only [Bool.and_eq_true, decide_eq_true_eq] at h
      obtain ⟨⟨⟨⟨⟨⟨h1, h2⟩, h3⟩, h4⟩, h5⟩, h6⟩, h7⟩ := h
      rw [← G.g.hN] at h1
      exact (so_seti h1 (vis1 h2) (nm1 h3).1 (nm1 h3).2 (listSub_assign h4 _) ((sole _ _ _ _).trans (swp_no h5 _ _ _)) rfl rfl (e_of ix G.g h6) (e_of c G.g h7)).cg fun e => rfl
    · cases h
  | .app i c, mt, X, W, H0, M, s, G, m, h => by
    unfold okS at h
    split at h
    · simp only [Bool.and_eq_true, decide_eq_true_eq] at h
      obtain ⟨⟨⟨⟨⟨⟨rfl, h1⟩, h2⟩, h3⟩, h4⟩, h5⟩, h6⟩ := h
      rw [← G.g.hN] at h1
      obtain ⟨t, p, sn⟩ := e_of c G.g h6
      exact (so_app h1 (vis1 h2) (nm1 h3).1 (nm1 h3).2 (star_eq h4 _ _) (pe_bm PySem.F.plainAttrs_list PySem.F.slot_list_append PySem.F.type_list_append mt_append (pe_var h1 (vis1 h2) (nm1 h3).1 (nm1 h3).2) (pa_cons (pe_gf (SoE.can ⟨t, p, sn⟩)) pa_nil (star_eq h4 _ _)) rfl (by rw [star_eq h4]; rfl) h5 (star_eq h4 _ _) rfl)).cg fun e => rfl
    · cases h
  | .ext i c, mt, X, W, H0, M, s, G, m, h => by
    unfold okS at h
    split at h
    · simp only [Bool.and_eq_true, decide_eq_true_eq] at h
      obtain ⟨⟨⟨⟨⟨⟨rfl, h1⟩, h2⟩, h3⟩, h4⟩, h5⟩, h6⟩ := h
      rw [← G.g.hN] at h1
      obtain ⟨t, p, sn⟩ := e_of c G.g h6
      exact (so_ext h1 (vis1 h2) (nm1 h3).1 (nm1 h3).2 (star_eq h4 _ _) (pe_bm PySem.F.plainAttrs_list PySem.F.slot_list_extend PySem.F.type_list_extend mt_extend (pe_var h1 (vis1 h2) (nm1 h3).1 (nm1 h3).2) (pa_cons (SoE.can ⟨t, p, sn⟩) pa_nil (star_eq h4 _ _)) rfl (by rw [star_eq h4]; rfl) h5 (star_eq h4 _ _) rfl)).cg fun e => rfl
    · cases h
  | .expr c, mt, X, W, H0, M, s, G, m, h => by
    unfold okS at h
    split at h
    · simp only [Bool.and_eq_true] at h
      exact (so_expr (swp_no h.1 _ _ _) (e_of c G.g h.2)).cg fun e => rfl
    · cases h
  | .ifs c a b, mt, X, W, H0, M, s, G, m, h => by
    unfold okS at h
    split at h
    · simp only [Bool.and_eq_true] at h
      exact (so_if (t_of c G.g h.1.1) (b_of a G m h.1.2) (b_of b G m h.2)).cg fun e => rfl
    · cases h
  | .fors g it body, mt, X, W, H0, M, s, G, m, h => by
    unfold okS at h
    split at h
    · simp only [Bool.and_eq_true] at h
      obtain ⟨⟨⟨⟨h1, h2⟩, h3⟩, h4⟩, h5⟩ := h
      exact (so_for G.calm G.po (folded_set h1 _) (pos0_ok h2 m) (g_of G.g.hN G.g.nd G.calm (fun x _ => G.fn x) g h3) (i_of it G.g h4) (b_of body G m h5)).cg fun e => rfl
    · cases h
  | .whl c body, mt, X, W, H0, M, s, G, m, h => by
    unfold okS at h
    split at h
    · simp only [Bool.and_eq_true] at h
      exact (so_whl G.po (t_of c G.g h.1) (b_of body G m h.2)).cg fun e => rfl
    · cases h
  | .ret c, mt, X, W, H0, M, s, G, m, h => by
    unfold okS at h
    split at h
    · exact (so_ret (e_of c G.g h)).cg fun e => rfl
    · cases h
  | .retn, mt, X, W, H0, M, s, G, m, h => by
    unfold okS at h
    split at h
    · exact so_retn.cg fun e => rfl
    · cases h
  | .rais k, mt, X, W, H0, M, s, G, m, h => by
    unfold okS at h
    split at h
    · simp only [Bool.and_eq_true, decide_eq_true_eq] at h
      obtain ⟨⟨h1, h2⟩, h3⟩ := h
      obtain ⟨e1, e2, e3, e4⟩ := G.excs _ _ h1
      exact (so_rais (k := k) G.calm G.g.tk (L2N.pmk_own PySem.F.excBase_ValueError e3 e1 e2 e4 (gl1 h2) (nm1 h3).1) fun σ H Q q => q).cg fun e => rfl
    · cases h
  | .brk, mt, X, W, H0, M, s, G, m, h => by
    unfold okS at h
    split at h
    · exact so_brk.cg fun e => rfl
    · cases h
  | .cont, mt, X, W, H0, M, s, G, m, h => by
    unfold okS at h
    split at h
    · exact so_ct.cg fun e => rfl
    · cases h
  | .pass, mt, X, W, H0, M, s, G, m, h => by
    unfold okS at h
    split at h
    · exact so_pass.cg fun e => rfl
    · cases h
theorem b_of : ∀ (a : Ss) {mt : Bool} {X : Cx} {W : WEx} {H0 : Hp} {M : Option Addr} {ss : List Stmt}, GoodS C O TB cr X W → MOk mt M → okSs C X.env.scope mt a ss = true → SoB X TB W H0 M ss (exSs O a)
  | .nil, mt, X, W, H0, M, [], G, m, h => so_bnil.cg fun e => rfl
  | .nil, mt, X, W, H0, M, _ :: _, G, m, h => by
    unfold okSs at h
    cases h
  | .cons a b, mt, X, W, H0, M, ss, G, m, h => by
    unfold okSs at h
    split at h
    · simp only [Bool.and_eq_true] at h
      exact (so_bcons (s_of a G m h.1) (b_of b G m h.2)).cg fun e => rfl
    · cases h
end
end
end Wd
/-! Wd 19: defs. -/
namespace Wd
open PySem PySem.Spec PyProof.Rows L2
/-! ### parameters -/
def plainPs (ps : List Str) (a : Arguments) : Bool := a.posonlyargs.isEmpty && a.kwonlyargs.isEmpty && a.vararg.isNone && a.kwarg.isNone && decide (a.args.map (·.arg) = ps)
theorem lookup_zip_some : ∀ {ps : List Str} {us : List Value}, us.length = ps.length → ∀ n ∈ ps, ((ps.zip us).lookup n).isSome = true
  | [], _, _, n, h => by cases h
  | p :: ps, [], hl, n, h => by cases hl
  | p :: ps, u :: us, hl, n, h => by
    rw [List.zip_cons_cons, List.lookup_cons]
    by_cases e : (n == p) = true
    · rw [e]
      rfl
    · rw [Bool.not_eq_true] at e
      rw [e]
      refine lookup_zip_some (by simpa using hl) n ?_
      rcases List.mem_cons.mp h with rfl | h
      · rw [beq_self_eq_true] at e
        cases e
      · exact h
theorem lookup_zip_all : ∀ {ps : List Str} {us : List Value} (pre : List (Str × Value)), us.length = ps.length → ps.Nodup → (∀ n ∈ ps, pre.lookup n = none) → ps.filterMap (fun n => ((pre ++ ps.zip us).lookup n).map (n, ·)) = ps.zip us
  | [], [], _, _, _, _ => rfl
  | [], _ :: _, _, hl, _, _ => by cases hl
  | p :: ps, [], _, hl, _, _ => by cases hl
  | p :: ps, u :: us, pre, hl, nd, hp => by
    have e0 : (pre ++ (p :: ps).zip (u :: us)).lookup p = some u := by
      rw [List.lookup_append, hp p List.mem_cons_self, List.zip_cons_cons, List.lookup_cons, beq_self_eq_true]
      rfl
    rw [List.filterMap_cons, e0]
    dsimp only [Option.map]
    rw [List.zip_cons_cons]
    refine congrArg _ ?_
    have ih := lookup_zip_all (us := us) (pre ++ [(p, u)]) (by simpa using hl) (List.nodup_cons.mp nd).2 (fun n hn => by
      rw [List.lookup_append, hp n (List.mem_cons_of_mem _ hn)]
      have : (n == p) = false := beq_eq_false_iff_ne.mpr fun e => (List.nodup_cons.mp nd).1 (e ▸ hn)
      simp [List.lookup_cons, this])
    refine Eq.trans (congrArg (fun z => List.filterMap z ps) (funext fun n => ?_)) ih
    rw [List.append_assoc]
    rfl
theorem bind_plain {ps : List Str} {x qual : Str} {params : Arguments} {body : List Stmt} {scope : Scope} {kV doc pm : Value} {an : Option Addr} {cdv ct : Value} {us : List Value} (h : plainPs ps params = true) (nd : ps.Nodup) (hl : us.length = ps.length) :
    bindArgs (PySem.W.fnOf x qual params body scope .none kV doc pm an cdv ct) ⟨us, []⟩ = pure (ps.zip us) := by
  obtain ⟨po, as, va, ko, kd, kw, df⟩ := params
  simp only [plainPs, Bool.and_eq_true, List.isEmpty_iff, Option.isNone_iff_eq_none, decide_eq_true_eq] at h
  obtain ⟨⟨⟨⟨rfl, rfl⟩, rfl⟩, rfl⟩, rfl⟩ := h
  have hm : ((as.map (·.arg)).filter fun n => (((as.map (·.arg)).zip us).lookup n).isNone) = [] := by
    rw [List.filter_eq_nil_iff]
    intro n hn
    have := lookup_zip_some hl n hn
    cases q : ((as.map (·.arg)).zip us).lookup n with
    | none => rw [q] at this; cases this
    | some _ => simp
  have hf := lookup_zip_all [] hl nd (fun _ _ => rfl)
  rw [List.nil_append] at hf
  have hs : seqItems? Value.none = pure none := rfl
  unfold bindArgs
  dsimp only [PySem.W.fnOf]
  simp only [hs, pure_bind, List.map_nil, List.nil_append, List.append_nil, List.forIn_nil, Option.getD_none, List.drop_nil, List.zip_nil_right, List.length_nil, Nat.sub_zero, List.take_length, hm, List.isEmpty_nil, hf]
  simp [hl, hm, hf]
/-! ### a def keeps what the interpreter tells -/
/-- a def of the law's text -/
structure Df where
  gn : Str
  fi : FI
  st : Stmt
def scopeB (N P : List Str) (sc : Scope) : Bool := kindB sc && !sc.isCoroutine && !sc.isGenerator && decide N.Nodup && decide (N.take P.length = P) && P.all (fun x => locB sc fT x) && sc.names.all fun y => decide (y.2 ≠ .free)
theorem scope_ok {N P : List Str} {sc : Scope} (h : scopeB N P sc = true) : FnScope N P sc := by
  simp only [scopeB, Bool.and_eq_true, Bool.not_eq_true', decide_eq_true_eq, List.all_eq_true] at h
  obtain ⟨⟨⟨⟨⟨⟨h1, h2⟩, h3⟩, h4⟩, h5⟩, h6⟩, h7⟩ := h
  refine ⟨?_, h2, h3, h4, h5, fun x hx => (loc1 (h6 x hx)).1, h7⟩
  unfold kindB at h1
  split at h1
  · assumption
  · cases h1
/-- the module's names that the defs use -/
structure Mo where
  fs : List Df
  blts : List Str
  glos : List (Str × PyData)
  excs : List Str
  lam : List Str := []
  tnm : List Str := []
def Mo.cx (m : Mo) (d : Df) : CX := { N := d.fi.N, fns := m.fs.map fun (z : Df) => (z.gn, z.fi.ps.length), blts := m.blts, glos := m.glos.map (·.1), excs := m.excs, told := decide (d.gn ∈ m.lam), tnm := m.tnm }
def Mo.tb (m : Mo) : List FI := m.fs.map (·.fi)
def Mo.gl (m : Mo) : List PyData := m.glos.map (·.2)
def Mo.cf (m : Mo) : Nat → Nat → List DV → CA := callF m.tb m.gl
def Df.ok (m : Mo) (d : Df) : Bool := scopeB d.fi.N d.fi.ps (defScope d.st) && plainPs d.fi.ps (defArgs d.st) && okSs (m.cx d) (defScope d.st) d.fi.mut0 d.fi.body (defBody d.st)
def Mo.ok (m : Mo) : Bool := m.fs.all (Df.ok m)
/-- what stands in the heap -/
structure Know (K : PySem.W.Frag) (mg : Str → Option Value) (m : Mo) (cr : Nat → Addr) : Prop where
  fn : ∀ (i : Nat) (d : Df), m.fs[i]? = some d → ∃ (f : Addr) (fd : FuncData), FunD K d.fi.name d.fi.name (defArgs d.st) (defBody d.st) (defScope d.st) [] [] f fd ∧ mg d.gn = some (.ref f)
  blt : ∀ x ∈ m.blts, mg x = none
  glo : ∀ (k : Nat) (x : Str) (d : PyData), m.glos[k]? = some (x, d) → ∃ (v : V) (u : Value), mg x = some u ∧ RelV v u ∧ ∀ H, Fz K H v d
  exc : ∀ (k : Nat) (x : Str), m.excs[k]? = some x → mg x = some (.ref (cr k)) ∧ PySem.W.keepIn K (.ref (cr k)) = true ∧ PySem.W.excIn K (cr k) He.veBase "ValueError.__new__" = true ∧ PySem.W.subIn K (.ref (cr k)) (.type "BaseException") = some true ∧ PySem.W.typeIn K (.ref (cr k)) = some (.type "type")
theorem rvs_get {K : PySem.W.Frag} {H : Hp} : ∀ {vs : List V} {ds : List DV}, RVs K H vs ds → ∀ (i : Nat) (d : DV), ds[i]? = some d → ∃ v, vs[i]? = some v ∧ RV K H v d
  | _, _, .nil, i, d, h => by simp at h
  | _, _, .cons h r, 0, d, e => by
    cases e
    exact ⟨_, rfl, h⟩
  | _, _, .cons h r, i + 1, d, e => rvs_get r i d e
def env0 (N : List Str) (ds : List DV) : DEnv := ds.map some ++ List.replicate (N.length - ds.length) none
theorem env0_get {N : List Str} {ds : List DV} {i : Nat} {d : DV} (h : (env0 N ds)[i]? = some (some d)) : ds[i]? = some d := by
  unfold env0 at h
  by_cases hi : i < ds.length
  · rw [List.getElem?_append_left (by simpa using hi), List.getElem?_map, Option.map_eq_some_iff] at h
    obtain ⟨a, h1, h2⟩ := h
    cases h2
    exact h1
  · rw [List.getElem?_append_right (by simpa using hi), List.getElem?_replicate] at h
    split at h <;> cases h
theorem start_get {N : List Str} {vs : List V} {i : Nat} {v : V} (h : vs[i]? = some v) : (L2.start N vs)[i]? = some (some v) := by
  have hi := (List.getElem?_eq_some_iff.mp h).1
  unfold L2.start
  rw [List.getElem?_append_left (by simpa using hi), List.getElem?_map, h]
  rfl
/-- an own list among the arguments: the first one -/
theorem argOk_own {m : Bool} {ds : List DV} (h : argOk m ds = true) {i : Nat} {xs : List PyData} (e : ds[i]? = some (DV.own xs)) : i = 0 ∧ m = true := by
  cases ds with
  | nil => simp at e
  | cons d r =>
    have tail : (r.all fun v => match v with | .d _ => true | .own _ => false) = true → ∀ j, r[j]? = some (DV.own xs) → False := fun h j q => by
      have := List.all_eq_true.mp h _ (List.mem_of_getElem? q)
      cases this
    cases d with
    | d x =>
      simp only [argOk, Bool.and_eq_true] at h
      cases i with
      | zero => cases e
      | succ j => exact (tail h.2 j e).elim
    | own ys =>
      simp only [argOk, Bool.and_eq_true] at h
      cases i with
      | zero => exact ⟨rfl, h.1⟩
      | succ j => exact (tail h.2 j e).elim
theorem argOk_head {ds : List DV} (h : argOk true ds = true) : ∃ xs, ds.head? = some (DV.own xs) := by
  cases ds with
  | nil => cases h
  | cons d r =>
    cases d with
    | d x => cases h
    | own ys => exact ⟨ys, rfl⟩
section
variable {P : Program} {w : World} {K : PySem.W.Frag} {mg : Str → Option Value} {base : Heap} {m : Mo} {cr : Nat → Addr} {TB : TL}
theorem si_start {N : List Str} {mt : Bool} {H : Hp} {vs : List V} {ds : List DV} (hN : ds.length ≤ N.length) (r : RVs K H vs ds) (ok : argOk mt ds = true) (t : LamX.Tabs TB H) :
    ∃ M : Option Addr, MOk mt M ∧ (∀ a, M = some a → mt = true ∧ vs.head? = some (V.ref a)) ∧ (mt = true → ∃ a, M = some a) ∧ SI K TB H M (L2.start N vs) H (env0 N ds) := by
  have rep : RepE K TB H (L2.start N vs) (env0 N ds) := by
    refine ⟨by simp only [env0, L2.start, List.length_append, List.length_map, List.length_replicate, r.length], fun i v q => ?_, fun i j xs ys a q1 q2 _ _ => ?_, t⟩
    · obtain ⟨x, h1, h2⟩ := rvs_get r i v (env0_get q)
      exact ⟨x, start_get h1, h2⟩
    · rw [(argOk_own ok (env0_get q1)).1, (argOk_own ok (env0_get q2)).1]
  cases mt with
  | false =>
    refine ⟨none, fun _ => rfl, fun a e => (nomatch e), fun e => (nomatch e), rep, Ext.refl, fun b z => z, fun b z => ?_, fun a e => (nomatch e)⟩
    obtain ⟨i, xs, q1, _⟩ := z
    cases (argOk_own ok (env0_get q1)).2
  | true =>
    obtain ⟨xs, hx⟩ := argOk_head ok
    have h0 : ds[0]? = some (DV.own xs) := by rw [← List.head?_eq_getElem?]; exact hx
    obtain ⟨v, h1, a, ws, rfl, h2, h3⟩ := rvs_get r 0 _ h0
    refine ⟨some a, fun e => (nomatch e), fun b e => ⟨rfl, by cases e; rw [List.head?_eq_getElem?]; exact h1⟩, fun _ => ⟨a, rfl⟩, rep, Ext.refl, fun b z => z, fun b z => .inr ?_, fun b e => ?_⟩
    · obtain ⟨i, ys, q1, q2⟩ := z
      obtain ⟨rfl, _⟩ := argOk_own ok (env0_get q1)
      have := start_get (N := N) h1
      rw [this] at q2
      cases q2
      rfl
    · cases e
      exact start_get h1
theorem exs_nomut {K : PySem.W.Frag} {H : Hp} {Mo : Option Addr} (h : Mo = none) {H' : Hp} (x : Ext (fun b => Mo = some b) H H') : Ext (fun _ => False) H H' := x.mono fun c z => by rw [h] at z; cases z
/-- all defs, to a depth -/
theorem fn_all (ht : ∀ (n i : Nat) (d : Df) (f : Addr) (fd : FuncData) (A : Around) (outer : List Env) (s : Shared) (H : Hp) (E : XK), m.fs[i]? = some d → FunD K d.fi.name d.fi.name (defArgs d.st) (defBody d.st) (defScope d.st) [] [] f fd → mg d.gn = some (.ref f) → Room (n + 2) (A.deeper (envOfC d.fi.name (defScope d.st) s.heap.objs.size f fd.code)) → A.guards = some [] → d.gn ∈ m.lam →
      ToldAt (m.cx d) TB cr (cxOf (L2N.CX P w) P w K mg base d.fi.N d.fi.name (defScope d.st) f fd.code A outer s H E) (fun k d H => E (.ref (cr k)) d H) n) (hk : Know K mg m cr) (hm : m.ok = true) (kin : K.In base) (hns : base.Ns mainGlobals mg) : ∀ (n i : Nat) (d : Df), m.fs[i]? = some d → ∀ f fd, FunD K d.fi.name d.fi.name (defArgs d.st) (defBody d.st) (defScope d.st) [] [] f fd → mg d.gn = some (.ref f) →
    FnG P w K mg base (3 * n) f fd d.fi.ps (spF K TB cr d.fi.ps.length (m.cf n i))
  | 0, i, d, hi, f, fd, F, hg => ⟨fun vs H Q E h => h.1, fun A outer s H args us vs Q E _ _ _ _ _ h => by
      obtain ⟨_, ds, _, _, h⟩ := h
      exact h.elim⟩
  | n + 1, i, d, hi, f, fd, F, hg => by
    have ih := fn_all ht hk hm kin hns n
    have ho : d.ok m = true := List.all_eq_true.mp hm d (List.mem_of_getElem? hi)
    simp only [Df.ok, Bool.and_eq_true] at ho
    obtain ⟨⟨o1, o2⟩, o3⟩ := ho
    have S := scope_ok o1
    have hpl : d.fi.ps.length ≤ d.fi.N.length := by have := congrArg List.length S.pre; rw [List.length_take] at this; omega
    have hF : Fun K d.fi.name d.fi.name d.st f fd := by
      obtain ⟨oc, od, dV, kV, doc, pm, an, cdv, ct, osl, e1, e2, e3, e4, e5⟩ := F.ex
      rcases e4 with ⟨_, rfl⟩ | ⟨z, _⟩
      · exact ⟨⟨oc, od, kV, doc, pm, an, cdv, ct, osl, e1, e2, e3⟩, F.kp⟩
      · exact absurd rfl z
    have tbi : m.tb[i]? = some d.fi := by
      unfold Mo.tb
      rw [List.getElem?_map, hi]
      rfl
    show FnG P w K mg base (3 * n + 2 + 1) f fd d.fi.ps _
    refine fng_of hF S (fun vs H Q E h => h.1) fun cdv hcd A outer s H vs Q E hr hg' h => ?_
    obtain ⟨hl, ds, rv, tb, h⟩ := h
    have ecf : m.cf (n + 1) i ds = runF { cf := m.cf n, glo := m.gl } d.fi ds := by
      show (match m.tb[i]? with
        | some F => runF { cf := callF m.tb m.gl n, glo := m.gl } F ds
        | none => CA.bad) = _
      rw [tbi]
      rfl
    rw [ecf] at h
    unfold runF at h
    by_cases hc : ds.length = d.fi.ps.length ∧ argOk d.fi.mut0 ds = true
    case neg =>
      rw [if_neg hc] at h
      exact h.elim
    rw [if_pos hc] at h
    obtain ⟨hc1, hc2⟩ := hc
    obtain ⟨M, m1, m2, m3, si⟩ := si_start (N := d.fi.N) (by rw [hc1]; exact hpl) rv hc2 tb
    have G : GoodS (m.cx d) { cf := m.cf n, glo := m.gl } TB cr (cxOf (L2N.CX P w) P w K mg base d.fi.N d.fi.name (defScope d.st) f cdv A outer s H E) (fun k d H => E (.ref (cr k)) d H) := by
      refine ⟨rfl, ⟨rfl, S.nd, fun _ => rfl, hg', by have := hr.un; exact Nat.lt_of_le_of_lt (Nat.add_le_add_left (by omega : 65 ≤ 16 * (3 * n + 2) + 200) _) (by rw [← Nat.add_assoc]; exact this), hk.blt, ⟨3 * n, fun _ _ _ => hr.mono (by omega), fun z => by rw [← hcd]; exact ht (3 * n) i d f fd A outer s H E hi F hg (by rw [hcd]; exact hr) hg' (of_decide_eq_true z), fun j x c hj => ?_⟩, fun j x hj => ?_, ?_⟩, fun _ => rfl, passes_of rfl, S.kind, fun j x hj => ?_⟩
      · simp only [Mo.cx, List.getElem?_map, Option.map_eq_some_iff] at hj
        obtain ⟨d', hd, he⟩ := hj
        cases he
        obtain ⟨f', fd', F', hg2⟩ := hk.fn j d' hd
        have ho' : d'.ok m = true := List.all_eq_true.mp hm d' (List.mem_of_getElem? hd)
        simp only [Df.ok, Bool.and_eq_true] at ho'
        have S' := scope_ok ho'.1.1
        have nd' : d'.fi.ps.Nodup := by
          have := S'.pre
          rw [← this]
          exact S'.nd.sublist (List.take_sublist _ _)
        exact ⟨f', fd', d'.fi.ps, ih j d' hd f' fd' F' hg2, F'.bindsN fun _ _ _ _ _ _ us hl => bind_plain ho'.1.2 nd' hl, hg2, F'.kp⟩
      · simp only [Mo.cx, List.getElem?_map, Option.map_eq_some_iff] at hj
        obtain ⟨⟨x', d'⟩, hd, rfl⟩ := hj
        obtain ⟨v, u, e1, e2, e3⟩ := hk.glo j x' d' hd
        exact ⟨d', v, u, by simp only [Mo.gl, List.getElem?_map, hd]; rfl, e1, e2, e3⟩
      · exact (L2N.takes_of rfl rfl rfl rfl).imp fun c dd σ H ⟨k, e1, e2⟩ => by rw [e1]; exact e2
      · obtain ⟨e1, e2, e3, e4, e5⟩ := hk.exc j x hj
        exact ⟨e1, e2, e3, raises_own e4 e5⟩
    obtain ⟨t, p, st⟩ := b_of (H0 := H) (M := M) d.fi.body G m1 o3
    refine ⟨t, p, st _ _ _ _ si ?_⟩
    have fin : ∀ (v : DV) (e : DEnv) (x : V) (σ' : L2.St) (H' : Hp), (match finR d.fi.mut0 v e with
        | .ok v none => ∀ x H', Ext (fun _ => False) H H' → (∀ b, H' b = none → H b = none) → LamX.Tabs TB H' → RN K H H' x v → Q x H'
        | .ok v (some zs) => ∃ a ys, vs.head? = some (V.ref a) ∧ ds.head? = some (DV.own ys) ∧ ∀ x H' ws, Ext (fun b => b = a) H H' → (∀ b, H' b = none → H b = none) → LamX.Tabs TB H' → H' a = some (.lst ws) → FzAll K H' ws zs → RN K H H' x v → Q x H'
        | .exc k => ∀ H', Ext (fun _ => False) H H' → (∀ b, H' b = none → H b = none) → LamX.Tabs TB H' → E (.ref (cr k)) none H'
        | .bad => False) → SI K TB H M σ' H' e → RN K H H' x v → Q x H' := by
      intro v e x σ' H' h i rn
      unfold finR at h
      cases hmt : d.fi.mut0 with
      | false =>
        rw [hmt] at h
        exact h x H' (i.ext.mono fun c z => by rw [m1 hmt] at z; cases z) i.gone i.rep.tabs rn
      | true =>
        rw [hmt] at h
        cases he : (e[0]? : Option (Option DV)) with
        | none => rw [he] at h; exact h.elim
        | some o =>
          rw [he] at h
          cases o with
          | none => exact h.elim
          | some dv =>
            cases dv with
            | d y => exact h.elim
            | own zs =>
              obtain ⟨a, ys, q1, q2, q3⟩ := h
              obtain ⟨y, hy, b, ws, rfl, h1, h2⟩ := i.rep.at_ 0 _ he
              obtain ⟨a', ha'⟩ := m3 hmt
              have z := (m2 a' ha').2
              rw [q1] at z
              cases z
              have z2 := i.m a ha'
              rw [hy] at z2
              cases z2
              exact q3 x H' ws (i.ext.mono fun c z => by rw [ha'] at z; cases z; rfl) i.gone i.rep.tabs h1 h2 rn
    have en : env0 d.fi.N ds = ds.map some ++ List.replicate (d.fi.N.length - ds.length) none := rfl
    rw [← en] at h
    cases hx : exSs { cf := m.cf n, glo := m.gl } d.fi.body (env0 d.fi.N ds) with
    | bad => rw [hx] at h; exact h.elim
    | exc k =>
      rw [hx] at h
      dsimp only at h
      cases hmt : d.fi.mut0 with
      | true => rw [hmt] at h; exact h.elim
      | false =>
        rw [hmt] at h
        exact fun H' x g t => h H' (x.mono fun c z => by rw [m1 hmt] at z; cases z) g t
    | ok fl e =>
      rw [hx] at h
      cases fl with
      | nx => exact fun σ' H' _ i => fin (.d .none) e .non σ' H' h i .non
      | brk => exact h.elim
      | ct => exact h.elim
      | ret v => exact fun x σ' H' i rv => fin v e x σ' H' h i (by cases v <;> exact rv)
end
end Wd
/-! Wd 20: the end of a law. -/
namespace Wd
open PySem L2 PyProof.Rows PySem.Spec
/-- the script's object -/
abbrev lstO (us : List Value) : Obj := { cls := .type "list", data := .seq us.toArray }
/-- an empty table of a code object -/
abbrev tabO : Obj := { cls := .none, data := .fields #[] }
open Classical in
/-- what is tracked when the law begins: the tables, and the script if the module has it not -/
noncomputable def H00 (K : PySem.W.Frag) (cs : List (Addr × Addr)) (a : Addr) (us : List Value) (ns : List Int) : Hp := fun b =>
  if ∃ p ∈ cs, p.2 = b then some (.tbl #[]) else if b = a ∧ K.lookup a = none then some (.frz (lstO us) (.lst (ns.map V.int))) else none
inductive HKind (K : PySem.W.Frag) (cs : List (Addr × Addr)) (a : Addr) (us : List Value) (ns : List Int) (b : Addr) : Prop where
  | no (h : H00 K cs a us ns b = none)
  | tab (p : Addr × Addr) (hp : p ∈ cs) (e : p.2 = b) (h : H00 K cs a us ns b = some (.tbl #[]))
  | scr (e : b = a) (k : K.lookup a = none) (h : H00 K cs a us ns b = some (.frz (lstO us) (.lst (ns.map V.int))))
section
variable {P : Program} {w : World} {K : PySem.W.Frag} {mg mb : Str → Option Value} {k : Nat} {fa a : Addr} {cs : List (Addr × Addr)} {s1 : Shared} {us : List Value} {ns : List Int}
theorem hkind (b : Addr) : HKind K cs a us ns b := by
  by_cases h1 : ∃ p ∈ cs, p.2 = b
  · obtain ⟨p, hp, e⟩ := h1
    exact .tab p hp e (by unfold H00; rw [if_pos ⟨p, hp, e⟩])
  · by_cases h2 : b = a ∧ K.lookup a = none
    · exact .scr h2.1 h2.2 (by unfold H00; rw [if_neg h1, if_pos h2])
    · exact .no (by unfold H00; rw [if_neg h1, if_neg h2])
theorem h00_tab {p : Addr × Addr} (hp : p ∈ cs) : H00 K cs a us ns p.2 = some (.tbl #[]) := by
  unfold H00
  rw [if_pos ⟨p, hp, rfl⟩]
/-- what the heap has at the law's entry -/
structure Entry (K : PySem.W.Frag) (mg mb : Str → Option Value) (cs : List (Addr × Addr)) (a : Addr) (us : List Value) (ns : List Int) (s1 : Shared) : Prop where
  kin : K.In s1.heap
  gl : s1.heap.Ns mainGlobals mg
  bl : s1.heap.Ns builtinsNs mb
  bb : ∀ x : Str, x ≠ "__name__" → mb x = bootBuiltins x
  lim : s1.heap.NoLimit
  gens : s1.gens = #[]
  tab : ∀ p ∈ cs, s1.heap.get? p.2 = some tabO
  out : ∀ p ∈ cs, K.lookup p.2 = none
  code : ∀ p ∈ cs, PySem.W.CodeHd s1.heap p.1 p.2
  bmod : ∃ (bm : Addr) (ob : Obj), mg "__builtins__" = some (.ref bm) ∧ bm ≠ builtinsNs ∧ s1.heap.get? bm = some ob ∧ ob.cls = .type "module" ∧ ob.dict = some builtinsNs ∧ ob.data = .plain
  scr : s1.heap.get? a = some (lstO us)
  inums : IntsAre us ns
  few : ns.length ≤ sizeLine
theorem Entry.loose (E : Entry K mg mb cs a us ns s1) {b : Addr} {o : Obj} (q : s1.heap.get? b = some o) (h1 : ∀ x n, o.data ≠ .seq x n) (h2 : o.data ≠ .fields #[]) : H00 K cs a us ns b = none := by
  cases hkind (K := K) (cs := cs) (a := a) (us := us) (ns := ns) b with
  | no h => exact h
  | tab p hp e h =>
    have t := E.tab p hp
    rw [e, q] at t
    cases t
    exact absurd rfl h2
  | scr e k h =>
    rw [e, E.scr] at q
    cases q
    exact absurd rfl (h1 _ _)
theorem Entry.nsp (E : Entry K mg mb cs a us ns s1) {b : Addr} {m : Str → Option Value} (h : s1.heap.Ns b m) : (hidT s1.heap (H00 K cs a us ns)).Ns b m := by
  obtain ⟨o, es, ep, q, d, r⟩ := h
  refine ⟨o, es, ep, hidT_get q (E.loose q ?_ ?_), d, r⟩
  · intro x n z
    rw [d] at z
    cases z
  · intro z
    rw [d] at z
    cases z
theorem Entry.kin' (E : Entry K mg mb cs a us ns s1) : K.In (hidT s1.heap (H00 K cs a us ns)) := by
  intro b o q
  refine hidT_get (E.kin b o q) ?_
  cases hkind (K := K) (cs := cs) (a := a) (us := us) (ns := ns) b with
  | no h => exact h
  | tab p hp e h =>
    have t := E.out p hp
    rw [e, q] at t
    cases t
  | scr e k h =>
    rw [e, k] at q
    cases q
theorem Entry.hok (E : Entry K mg mb cs a us ns s1) : HOk P w (H00 K cs a us ns) s1.heap := by
  intro b u q
  cases hkind (K := K) (cs := cs) (a := a) (us := us) (ns := ns) b with
  | no h =>
    rw [h] at q
    cases q
  | tab p hp e h =>
    rw [h] at q
    cases q
    have t := E.tab p hp
    rw [e] at t
    exact t
  | scr e k h =>
    rw [h] at q
    cases q
    rw [e]
    exact ⟨E.scr, by rw [List.length_map]; exact E.few, us, _, L2.vals_ints E.inums, E.scr⟩
theorem Entry.env (E : Entry K mg mb cs a us ns s1) : Env0 P w K mg (hidT s1.heap (H00 K cs a us ns)) callerA [] s1 (H00 K cs a us ns) := by
  obtain ⟨mc, l1, l2⟩ := E.lim
  refine ⟨rfl, ⟨E.kin', E.nsp E.gl, ⟨mb, E.nsp E.bl, E.bb⟩, mc, E.nsp l1, l2⟩, fun b o q => of_hidT q, Nat.le_of_eq (hidT_size _ _), trivial, fun b hb => ?_, E.hok, .of_eq E.gens⟩
  cases hb
theorem Entry.tabB (E : Entry K mg mb cs a us ns s1) {p : Addr × Addr} (hp : p ∈ cs) : LamX.TabB (hidT s1.heap (H00 K cs a us ns)) mg p.1 p.2 := by
  have t := E.tab p hp
  refine ⟨?_, ?_, ?_⟩
  · obtain ⟨o, vs, file, tf, flags, tg, inF, text, tt, e1, r1, r2, r3, r⟩ := E.code p hp
    refine ⟨o, vs, file, tf, flags, tg, inF, text, tt, hidT_get e1 (E.loose e1 ?_ ?_), r1, r2, r3, r⟩
    · intro x n z
      rw [r2] at z
      cases z
    · intro z
      rw [r2] at z
      cases z
      simp at r3
  · obtain ⟨bm, ob, b1, b2, b3, b4, b5, b6⟩ := E.bmod
    refine ⟨bm, ob, b1, b2, ?_, ?_, hidT_get b3 (E.loose b3 ?_ ?_), b4, b5, b6⟩
    · intro z
      obtain ⟨o, es, ep, q, d, _⟩ := E.gl
      rw [← z, b3] at q
      cases q
      rw [b6] at d
      cases d
    · intro z
      rw [z, t] at b3
      cases b3
      cases b6
    · intro x n z
      rw [b6] at z
      cases z
    · intro z
      rw [b6] at z
      cases z
  · intro z
    obtain ⟨o, es, ep, q, d, _⟩ := E.gl
    rw [z, t] at q
    cases q
    cases d
theorem fz_ints {H : Hp} : ∀ ns : List Int, FzAll K H (ns.map V.int) (ns.map PyData.int)
  | [] => .nil
  | n :: r => .cons (.int n) (fz_ints r)
/-- the script, as the law's argument -/
theorem Entry.arg (E : Entry K mg mb cs a us ns s1) : Fz K (H00 K cs a us ns) (.ref a) (.list (ns.map .int)) := by
  cases hk : K.lookup a with
  | some o =>
    have q := E.kin a o hk
    rw [E.scr] at q
    cases q
    exact .lstK (its := us.toArray) (n := 0) hk rfl rfl rfl (by rw [List.size_toArray, E.inums.length]; exact E.few) (by simpa using L2.vals_ints E.inums) (fz_ints ns)
  | none =>
    cases hkind (K := K) (cs := cs) (a := a) (us := us) (ns := ns) a with
    | no h =>
      unfold H00 at h
      split at h
      · cases h
      · rw [if_pos ⟨rfl, hk⟩] at h
        cases h
    | tab p hp e h =>
      have t := E.tab p hp
      rw [e, E.scr] at t
      cases congrArg Obj.data (Option.some.inj t)
    | scr e k h => exact .lst h (fz_ints ns)
/-- the law, called by the judge's caller -/
theorem law_run {fd : FuncData} {x : Str} {sp : Sp} (E : Entry K mg mb cs a us ns s1) (hr : Room k callerA)
    (F : ∀ base : Heap, K.In base → base.Ns mainGlobals mg → (∀ p ∈ cs, LamX.TabB base mg p.1 p.2) → FnG P w K mg base k fa fd [x] sp) (hb : ∀ (s : Shared) (u : Value), BindsTo s fd ⟨[u], []⟩ [(x, u)])
    (hsp : ∀ H : Hp, (∀ p ∈ cs, H p.2 = some (.tbl #[])) → Fz K H (.ref a) (.list (ns.map .int)) → sp [.ref a] H (fun v _ => v = .bl true) fun _ _ _ => False) :
    codeAny (model P w) callerA (.call (.ref fa) ⟨[.ref a], []⟩) (fun r s2 => r = .ok (.ret (.bool true)) ∧ OldK s1.heap s2.heap ∧ s2.os = s1.os ∧ AllBare s2.gens) s1 := by
  have run := (F _ E.kin' (E.nsp E.gl) (fun p hp => E.tabB hp)).run callerA [] s1 _ ⟨[.ref a], []⟩ [.ref a] [.ref a] _ _ hr rfl E.env (hb s1 (.ref a)) (.cons rfl .nil) (hsp _ (fun p hp => h00_tab hp) E.arg)
  refine codeAny_mono run fun r s2 h => ?_
  cases r with
  | error e =>
    obtain ⟨_, _, _, _, _, _, _, _, _, _, _, _, z⟩ := h
    exact z.elim
  | ok fl =>
    cases fl with
    | next => exact h.elim
    | brk => exact h.elim
    | cont => exact h.elim
    | ret u =>
      obtain ⟨v, H', os, bare, un, ok, rv, q⟩ := h
      have qv : v = V.bl true := q
      rw [qv] at rv
      have eu : u = Value.bool true := rv
      have same : ∀ b o, s1.heap.get? b = some o → (∃ p ∈ cs, p.2 = b ∧ ∃ more : Array Value, s2.heap.get? b = some { cls := .none, data := .fields more }) ∨ s2.heap.get? b = some o := by
        intro b o e
        cases hkind (K := K) (cs := cs) (a := a) (us := us) (ns := ns) b with
        | no h => exact .inr (un.keep b o e h (by intro z; cases z) (by intro z; cases z))
        | tab p hp ep h =>
          obtain ⟨more, z⟩ := un.tbls b #[] h
          exact .inl ⟨p, hp, ep, _, ok b _ z⟩
        | scr eb hk h =>
          refine .inr ?_
          have z := (ok b _ (un.frzs b _ _ h)).1
          rw [eb, E.scr] at e
          cases e
          exact z
      refine ⟨by rw [eu], ⟨fun b o e => ?_, fun b o e => ?_⟩, os, bare⟩
      · rcases same b o e with ⟨p, hp, rfl, more, hm⟩ | z
        · rw [E.tab p hp] at e
          cases e
          exact .inr (.inl ⟨((E.code p hp).tab (E.tab p hp)).isCodeTable, rfl, #[], more, rfl, by rw [Array.empty_append]; exact hm⟩)
        · exact .inl z
      · rcases same b o e with ⟨p, hp, rfl, more, hm⟩ | z
        · exact ⟨_, hm⟩
        · exact ⟨o, z⟩
end
end Wd
/-! Wd 21: from the head to the law. -/
namespace Wd
open PySem L2 PyProof.Rows PySem.Spec
/-! ### data of the module -/
def all2 {α β : Type} (f : α → β → Bool) : List α → List β → Bool
  | [], [] => true
  | x :: xs, y :: ys => f x y && all2 f xs ys
  | _, _ => false
def seqB (K : PySem.W.Frag) (c : String) (f : List Value → Bool) (a : Addr) : Bool := match K.lookup a with
  | some ⟨.type t, none, .seq its _, _⟩ => decide (t = c) && decide (its.size ≤ sizeLine) && f its.toList
  | _ => false
def dB (K : PySem.W.Frag) : Nat → PyData → Value → Bool
  | 0, _, _ => false
  | n + 1, .int i, .int j _ => decide (i = j)
  | n + 1, .str x, .str y _ => decide (x = y)
  | n + 1, .bool b, .bool c => decide (b = c)
  | n + 1, .none, .none => true
  | n + 1, .tuple ds, .ref a => seqB K "tuple" (all2 (dB K n) ds) a
  | n + 1, .list ds, .ref a => seqB K "list" (all2 (dB K n) ds) a
  | _, _, _ => false
theorem seqB_ok {K : PySem.W.Frag} {c : String} {f : List Value → Bool} {a : Addr} (h : seqB K c f a = true) : ∃ (o : Obj) (its : Array Value) (n : Nat), K.lookup a = some o ∧ o.cls = .type c ∧ o.dict = none ∧ o.data = .seq its n ∧ its.size ≤ sizeLine ∧ f its.toList = true := by
  unfold seqB at h
  split at h
  · rename_i q
    simp only [Bool.and_eq_true, decide_eq_true_eq] at h
    obtain ⟨⟨rfl, h1⟩, h2⟩ := h
    exact ⟨_, _, _, q, rfl, rfl, rfl, h1, h2⟩
  · cases h
theorem dB_ok {K : PySem.W.Frag} : ∀ (n : Nat) (d : PyData) (u : Value), dB K n d u = true → ∃ v, RelV v u ∧ ∀ H, Fz K H v d
  | 0, d, u, h => by
    unfold dB at h
    cases h
  | n + 1, d, u, h => by
    have all : ∀ (ds : List PyData) (us : List Value), all2 (dB K n) ds us = true → ∃ vs, Vals vs us ∧ ∀ H, FzAll K H vs ds := by
      intro ds
      induction ds with
      | nil =>
        intro us h
        cases us with
        | nil => exact ⟨[], .nil, fun _ => .nil⟩
        | cons _ _ => cases h
      | cons d ds ih =>
        intro us h
        cases us with
        | nil => cases h
        | cons u us =>
          simp only [all2, Bool.and_eq_true] at h
          obtain ⟨v, h1, h2⟩ := dB_ok n d u h.1
          obtain ⟨vs, h3, h4⟩ := ih us h.2
          exact ⟨v :: vs, .cons h1 h3, fun H => .cons (h2 H) (h4 H)⟩
    unfold dB at h
    split at h
    · rename_i e
      cases e
    · exact ⟨.int _, ⟨_, by rw [of_decide_eq_true h]⟩, fun _ => .int _⟩
    · exact ⟨.str _, ⟨_, by rw [of_decide_eq_true h]⟩, fun _ => .str _⟩
    · exact ⟨.bl _, by rw [of_decide_eq_true h]; rfl, fun _ => .bl _⟩
    · exact ⟨.non, rfl, fun _ => .non⟩
    · rename_i e
      cases e
      obtain ⟨o, its, k, h1, h2, h3, h4, h5, h6⟩ := seqB_ok h
      obtain ⟨vs, h7, h8⟩ := all _ _ h6
      exact ⟨.ref _, rfl, fun H => .tup (.inr ⟨o, its, k, h1, h2, h4, h5, h7⟩) (h8 H)⟩
    · rename_i e
      cases e
      obtain ⟨o, its, k, h1, h2, h3, h4, h5, h6⟩ := seqB_ok h
      obtain ⟨vs, h7, h8⟩ := all _ _ h6
      exact ⟨.ref _, rfl, fun H => .lstK h1 h2 h3 h4 h5 h7 (h8 H)⟩
    · cases h
/-! ### the head -/
def Df.dd (d : Df) : He.DefD := ⟨(d.gn, none), d.fi.name, d.fi.name, defArgs d.st, defBody d.st, defScope d.st, [], []⟩
def Mo.fa (m : Mo) : List He.Fa := m.fs.map (fun d => .glo d.gn) ++ (m.blts.map .free ++ (m.excs.map .glo ++ m.excs.map .exc))
def Mo.dds (m : Mo) : List He.DefD := m.fs.map Df.dd
def Mo.ex (m : Mo) (K : PySem.W.Frag) : Bool := m.glos.all fun p => match PySem.W.nsIn K mainGlobals p.1 with
  | some (some u) => dB K 6 p.2 u
  | _ => false
/-- the exceptions' classes -/
def Mo.cr (m : Mo) (K : PySem.W.Frag) (k : Nat) : Addr := match m.excs[k]? with
  | some x => He.ga K x
  | none => 0
theorem Mo.know {m : Mo} {K : PySem.W.Frag} {h : Heap} {mg : Str → Option Value} {ts : List He.Tab} {tf : List He.Defn} {w : World} (kin : K.In h) (G : h.Ns mainGlobals mg) (c : He.SaysX m.fa m.dds ts tf m.ex w h K) : Know K mg m (m.cr K) := by
  have fact : ∀ f ∈ m.fa, f.ok K = true := fun f hf => He.SaysD.facts c.t.d hf
  refine ⟨fun i d hi => ?_, fun x hx => ?_, fun k x d hk => ?_, fun k x hk => ?_⟩
  · have hd : d ∈ m.fs := List.mem_of_getElem? hi
    obtain ⟨fd, F⟩ := He.SaysD.defs c.t.d (d := d.dd) (List.mem_map.mpr ⟨d, hd, rfl⟩)
    have g := He.glo_ok kin G (fact (.glo d.gn) (List.mem_append_left _ (List.mem_map.mpr ⟨d, hd, rfl⟩)))
    exact ⟨_, fd, F, g⟩
  · exact He.free_ok kin G (fact (.free x) (List.mem_append_right _ (List.mem_append_left _ (List.mem_map.mpr ⟨x, hx, rfl⟩))))
  · have e := List.all_eq_true.mp c.more (x, d) (List.mem_of_getElem? hk)
    dsimp only at e
    split at e
    · rename_i u q
      obtain ⟨v, h1, h2⟩ := dB_ok _ _ _ e
      exact ⟨v, u, PySem.W.mg_of kin G q, h1, h2⟩
    · cases e
  · have hx : x ∈ m.excs := List.mem_of_getElem? hk
    have e : m.cr K k = He.ga K x := by unfold Mo.cr; rw [hk]
    rw [e]
    have g := He.glo_ok kin G (fact (.glo x) (List.mem_append_right _ (List.mem_append_right _ (List.mem_append_left _ (List.mem_map.mpr ⟨x, hx, rfl⟩)))))
    obtain ⟨e1, e2, e3, e4⟩ := He.exc_ok (fact (.exc x) (List.mem_append_right _ (List.mem_append_right _ (List.mem_append_right _ (List.mem_map.mpr ⟨x, hx, rfl⟩)))))
    exact ⟨g, e2, e1, e3, e4⟩
/-- what a law asks of the interpreter -/
def Answers (m : Mo) (n i : Nat) : Prop := ∀ ns : List Int, ns.length ≤ 63 → (∀ z ∈ ns, Builtin.Int.intBits z ≤ 1048576) → m.cf n i [.d (.list (ns.map .int))] = .ok (.d (.bool true)) none
theorem law_walk {l : PySem.W.OpenLaw} {n i nn : Nat} {q : Program} {loose : List Str} {XP : (Str → Option Value) → Heap → Prop} {d : DefRec} {m : Mo} {dl : Df}
    (hto : m.lam = []) (hn : l.most = some 63) (hdf : d.params.defaults = []) (hr : Room (3 * n) callerA) (ok : m.ok = true) (hi : m.fs[i]? = some dl) (hd : d.name = dl.gn) (hp : dl.fi.ps.length = 1) (A : Answers m n i) :
    PySem.W.WalkO q loose XP (He.hookX nn m.fa m.dds [] [] m.ex).says l.row.toRowW d [] (fun f vs => PySem.call f vs) := by
  refine Att.attach_callB hn hdf fun w s₀ s₁ mg mb fa o pm cd doc a vs ns G Y ho hod hcd hmg hobj hints hlen hbits hg => ?_
  obtain ⟨K, KX, c⟩ := Y
  have kn : Know K mg m (m.cr K) := Mo.know KX G.T.g c
  obtain ⟨f, fd, F, hf⟩ := kn.fn i dl hi
  rw [hd, hf] at hmg
  cases hmg
  have E : Entry K mg mb [] a vs ns s₁ := ⟨KX, G.T.g, G.T.b, G.T.builtins, G.T.nolimit, hg, fun p hp => (by cases hp), fun p hp => (by cases hp), fun p hp => (by cases hp), G.T.bmain, hobj, hints, Nat.le_trans hlen (by decide)⟩
  obtain ⟨x, hx⟩ : ∃ x, dl.fi.ps = [x] := by
    match h : dl.fi.ps, hp with
    | [x], _ => exact ⟨x, rfl⟩
  have ho' : dl.ok m = true := List.all_eq_true.mp ok dl (List.mem_of_getElem? hi)
  simp only [Df.ok, Bool.and_eq_true] at ho'
  have nd : dl.fi.ps.Nodup := by rw [hx]; simp
  refine law_run (fd := fd) (sp := spF K [] (m.cr K) 1 (m.cf n i)) (x := x) E hr (fun base kb nb _ => ?_) (fun s u => ?_) fun H _ hS => ?_
  · have z := fn_all (P := l.prog) (w := w) (TB := []) (fun n2 i2 d2 f2 fd2 A outer s H E _ _ _ _ _ z => (by
      rw [hto] at z
      cases z)) kn ok kb nb n i dl hi fa fd F hf
    rw [hx] at z
    exact z
  · have z := FunD.bindsA (ps := dl.fi.ps) F (fun _ _ _ _ _ _ us hl => bind_plain ho'.1.2 nd hl) s [u] (by rw [hx]; rfl)
    rw [hx] at z
    exact z
  · refine ⟨rfl, [.d (.list (ns.map .int))], .cons hS .nil, fun p hp => (by cases hp), ?_⟩
    rw [A ns hlen hbits]
    intro x H' _ _ _ rn
    have z : Fz K H' x (.bool true) := rn
    cases z
    rfl
end Wd
/-! Wd 22: a lambda with defaults is made. -/
namespace Wd
open PySem L2 PyProof.Rows PySem.Spec
/-- a lambda's function: dv its defaults -/
abbrev fnL (qn : Str) (pr : Arguments) (bd : Expr) (sc : Scope) (cl : List (Str × Addr)) (dv pm cd ct : Value) : FuncData :=
  { name := "<lambda>", qualname := qn, params := pr, body := .expr bd, scope := sc, globals := mainGlobals, closure := cl, defaults := dv, kwdefaults := .none, doc := .none, pyModule := pm, annotations := none, code := cd, closureTuple := ct, builtins := builtinsNs }
abbrev obL (qn : Str) (pr : Arguments) (bd : Expr) (sc : Scope) (cl : List (Str × Addr)) (dv pm cd ct : Value) : Obj := { cls := .type "function", data := .func (fnL qn pr bd sc cl dv pm cd ct) }
section
variable {M : Model} {A : Around} {E : Value → Shared → Prop} {s : Shared} {qn : Str} {pr : Arguments} {bd : Expr} {sc : Scope} {env : Env} {c P : Addr} {ps : Array Value} {pos : Pos} {ln : Nat} {mg : Str → Option Value} {cl : List (Str × Addr)} {Q : Value → Shared → Prop}
/-- what is known where a function is made -/
structure MkAt (s : Shared) (env : Env) (sc : Scope) (c P : Addr) (ps : Array Value) (mg : Str → Option Value) (cl : List (Str × Addr)) : Prop where
  cl : closureFor sc env = pure cl
  gl : env.globals = mainGlobals
  ns : s.heap.Ns mainGlobals mg
  code : env.code = .ref c
  hd : PySem.W.CodeHd s.heap c P
  tab : s.heap.get? P = some { cls := .none, data := .fields ps }
  ok : TriplesOk ps.toList
  gP : mainGlobals ≠ P
  bm : s.heap.BuiltinsAt mg P
theorem MkAt.push (m : MkAt s env sc c P ps mg cl) (o : Obj) : MkAt { s with heap := s.heap.push o } env sc c P ps mg cl := by
  have k : ∀ b u, s.heap.get? b = some u → (s.heap.push o).get? b = some u := fun b u e => Heap.get?_push_of_some _ e
  exact ⟨m.cl, m.gl, m.ns.push _, m.code, m.hd.keeps k, k _ _ m.tab, m.ok, m.gP, m.bm.keeps k⟩
/-- the last part of the making, the closure's tuple made -/
theorem mk_last {dv ct : Value} (m : MkAt s env sc c P ps mg cl)
    (hit : ∀ cv, codeAmong pos ps.toList = some cv → Q (.ref s.heap.objs.size) { s with heap := s.heap.push (obL qn pr bd sc cl dv ((mg "__name__").getD .none) cv ct) })
    (new : codeAmong pos ps.toList = none → ∀ (c' : Addr) (h' : Heap) (tk : Nat), Heap.ExtBut P s.heap h' → s.heap.objs.size ≤ c' → c' < h'.objs.size → h'.CodeRec (.ref c') qn → h'.get? P = some { cls := .none, data := .fields (ps ++ #[rawInt pos.line, rawInt pos.col, .ref c']) } →
      Q (.ref h'.objs.size) { s with heap := h'.push (obL qn pr bd sc cl dv ((mg "__name__").getD .none) (.ref c') ct), toks := tk }) :
    wpAny M A (do
      let cv ← functionCode env pos ln "<lambda>" qn pr sc (.expr bd)
      let bl ← builtinsFor mainGlobals env.builtins
      let nm ← nsGet mainGlobals "__name__"
      newObj (.type "function") (.func { name := "<lambda>", qualname := qn, params := pr, body := .expr bd, scope := sc, globals := mainGlobals, closure := cl, closureTuple := ct, code := cv, builtins := bl, defaults := dv, kwdefaults := .none, annotations := none, pyModule := nm.getD .none, doc := .none })) Q E s := by
  obtain ⟨bm, ob, b1, b2, b3, b4, b5, b6, b7, b8⟩ := m.bm
  cases hc : codeAmong pos ps.toList with
  | some cv =>
    refine wpAny_bind (wpAny_functionCode_hit m.code (m.hd.code m.tab m.ok) hc (wpAny_bind (wpAny_builtinsFor m.ns b1 b2 b5 b6 b7 b8 (wpAny_bind (wpAny_nsGet m.ns ?_)))))
    exact wpAny_newObj_type (hit cv hc) (by size_fits)
  | none =>
    refine wpAny_bind (wpAny_functionCodeX m.code (m.hd.code m.tab m.ok) (m.hd.tab m.tab) hc fun c' h' tk x1 x2 x3 _ x4 x5 _ => ?_)
    have g' := m.ns.extBut x1 m.gP
    refine wpAny_bind (wpAny_builtinsFor g' b1 b2 (x1 _ _ b4 b5) b6 b7 b8 (wpAny_bind (wpAny_nsGet g' ?_)))
    exact wpAny_newObj_type (new hc c' h' tk x1 x2 x3 x4 x5.2) (by size_fits)
/-- the answer of a making: the function's object, its code object known or new -/
def MkQ (s : Shared) (P : Addr) (ps : Array Value) (pos : Pos) (qn : Str) (pr : Arguments) (bd : Expr) (sc : Scope) (cl : List (Str × Addr)) (dv pm : Value) (Q : Value → Shared → Prop) : Prop :=
  (∀ cv, codeAmong pos ps.toList = some cv → ∀ (ct : Value) (h' : Heap) (tk : Nat), (∀ b o, s.heap.get? b = some o → h'.get? b = some o) → s.heap.objs.size ≤ h'.objs.size → Q (.ref h'.objs.size) { s with heap := h'.push (obL qn pr bd sc cl dv pm cv ct), toks := tk }) ∧
  (codeAmong pos ps.toList = none → ∀ (c' : Addr) (ct : Value) (h' : Heap) (tk : Nat), Heap.ExtBut P s.heap h' → s.heap.objs.size ≤ c' → c' < h'.objs.size → h'.CodeRec (.ref c') qn → h'.get? P = some { cls := .none, data := .fields (ps ++ #[rawInt pos.line, rawInt pos.col, .ref c']) } →
    Q (.ref h'.objs.size) { s with heap := h'.push (obL qn pr bd sc cl dv pm (.ref c') ct), toks := tk })
theorem MkQ.push {dv pm : Value} {o : Obj} (q : MkQ s P ps pos qn pr bd sc cl dv pm Q) : MkQ { s with heap := s.heap.push o } P ps pos qn pr bd sc cl dv pm Q := by
  have k : ∀ b u, s.heap.get? b = some u → (s.heap.push o).get? b = some u := fun b u e => Heap.get?_push_of_some _ e
  have z : s.heap.objs.size ≤ (s.heap.push o).objs.size := by rw [Heap.size_push]; omega
  exact ⟨fun cv hc ct h' tk x1 x2 => q.1 cv hc ct h' tk (fun b u e => x1 b u (k b u e)) (Nat.le_trans z x2), fun hc c' ct h' tk x1 x2 x3 x4 x5 => q.2 hc c' ct h' tk (fun b u hb e => x1 b u hb (k b u e)) (Nat.le_trans z x2) x3 x4 x5⟩
theorem mk_tail {dv : Value} (m : MkAt s env sc c P ps mg cl) (q : MkQ s P ps pos qn pr bd sc cl dv ((mg "__name__").getD .none) Q) : wpAny M A (makeTail "<lambda>" qn pr (.expr bd) sc env dv .none none pos ln) Q E s := by
  unfold makeTail
  rw [m.cl, m.gl]
  refine wpAny_bind (wpAny_pure ?_)
  have last : ∀ (ct : Value) (s2 : Shared), MkAt s2 env sc c P ps mg cl → MkQ s2 P ps pos qn pr bd sc cl dv ((mg "__name__").getD .none) Q → wpAny M A (do
      let cv ← functionCode env pos ln "<lambda>" qn pr sc (.expr bd)
      let bl ← builtinsFor mainGlobals env.builtins
      let nm ← nsGet mainGlobals "__name__"
      newObj (.type "function") (.func { name := "<lambda>", qualname := qn, params := pr, body := .expr bd, scope := sc, globals := mainGlobals, closure := cl, closureTuple := ct, code := cv, builtins := bl, defaults := dv, kwdefaults := .none, annotations := none, pyModule := nm.getD .none, doc := .none })) Q E s2 := fun ct s2 m2 q2 =>
    mk_last m2 (fun cv hc => q2.1 cv hc ct s2.heap s2.toks (fun _ _ e => e) (Nat.le_refl _)) fun hc c' h' tk => q2.2 hc c' ct h' tk
  cases cl with
  | nil => exact wpAny_bind (wpAny_pure (last .none s m q))
  | cons a r => exact wpAny_bind (wpAny_newTextTuple (last _ _ (m.push _) q.push))
end
theorem par_cases {pr : Arguments} (h : parB pr = true) : pr = ⟨[], [], none, [], [], none, []⟩ ∨ ∃ (a : Arg) (i : Int) (k : _) (p : Pos), pr = ⟨[], [a], none, [], [], none, [.Constant (.int i) k p]⟩ := by
  obtain ⟨po, as, va, ko, kd, kw, df⟩ := pr
  simp only [parB, Bool.and_eq_true, List.isEmpty_iff, Option.isNone_iff_eq_none, decide_eq_true_eq] at h
  obtain ⟨⟨⟨⟨⟨⟨rfl, rfl⟩, rfl⟩, rfl⟩, rfl⟩, hl⟩, hd⟩ := h
  unfold dfB at hd
  split at hd
  · cases as with
    | nil => exact .inl rfl
    | cons _ _ => cases hl
  · match as, hl with
    | [a], _ => exact .inr ⟨a, _, _, _, rfl⟩
  · cases hd
/-- the defaults, kept: nothing, or a tuple of one -/
def DfO (fs : List Addr) (h : Heap) (H : Hp) (pr : Arguments) (dv : Value) : Prop := (pr.args = [] ∧ dv = .none) ∨ ∃ (a : Arg) (T : Addr) (u : Value), pr.args = [a] ∧ dv = .ref T ∧ h.get? T = some { cls := .type "tuple", data := .seq [u].toArray } ∧ H T = none ∧ T ∉ fs
section
variable {X : Cx} {pins : List (Addr × Obj)} {σ : L2.St} {H : Hp} {s : Shared} {T : List (Addr × Str)} {c P : Addr} {pr : Arguments} {bd : Expr} {sc : Scope} {pos : Pos} {E : Value → Shared → Prop} {Q : Value → Shared → Prop}
/-- what a made lambda leaves -/
def Made (X : Cx) (pins : List (Addr × Obj)) (σ : L2.St) (H : Hp) (T : List (Addr × Str)) (pr : Arguments) (bd : Expr) (sc : Scope) (Q : Value → Shared → Prop) : Prop :=
  ∀ (f c' : Addr) (dv pm ct : Value) (H1 : Hp) (s1 : Shared), Inv X pins σ H1 s1 → LamX.ExtN H H1 → (∀ b, H1 b = none → H b = none) → LamX.Tabs T H1 → s1.heap.get? f = some (obL (X.env.qual ++ "<lambda>") pr bd sc (cloFrom X.env.cells sc.names []) dv pm (.ref c') ct) → H1 f = none → f ∉ frs X.stack →
    H1 c' = some (LamX.CodeO c' (X.env.qual ++ "<lambda>")) → DfO (frs X.stack) s1.heap H1 pr dv → Q (.ref f) s1
theorem nofr (I : Inv X pins σ H s) {f : Addr} (hf : s.heap.objs.size ≤ f) : f ∉ frs X.stack := by
  intro z
  rcases List.mem_cons.mp (I.stkSub _ z) with e | e
  · have l := I.lt
    rw [← e] at l
    exact Nat.lt_irrefl _ (Nat.lt_of_lt_of_le l hf)
  · exact I.nofs hf e
/-- from the making's answer -/
theorem mk_made {ps : Array Value} {dv : Value} (I : Inv X pins σ H s) (hm : (P, X.env.qual ++ "<lambda>") ∈ T) (hu : ∀ p ∈ T, p.1 = P → p.2 = X.env.qual ++ "<lambda>") (hT : LamX.Tabs T H) (hP : H P = some (.tbl ps)) (ht : TriplesOk ps.toList)
    (ha : ∀ (p : Pos) (cv : Value), codeAmong p ps.toList = some cv → ∃ c, cv = .ref c ∧ H c = some (LamX.CodeO c (X.env.qual ++ "<lambda>"))) (hd : DfO (frs X.stack) s.heap H pr dv) {pm : Value} (q : Made X pins σ H T pr bd sc Q) :
    MkQ s P ps pos (X.env.qual ++ "<lambda>") pr bd sc (cloFrom X.env.cells sc.names []) dv pm Q := by
  have dk : ∀ {h' : Heap} {H1 : Hp}, (∀ b o, b ≠ P → s.heap.get? b = some o → h'.get? b = some o) → (∀ b, b ≠ P → s.heap.get? b ≠ none → H1 b = H b) → DfO (frs X.stack) h' H1 pr dv := fun {h' H1} k n => by
    rcases hd with z | ⟨a, t, u, e1, e2, e3, e4, e5⟩
    · exact .inl z
    · have ne : t ≠ P := fun z => by
        rw [z, hP] at e4
        cases e4
      exact .inr ⟨a, t, u, e1, e2, k _ _ ne e3, by rw [n t ne (by rw [e3]; simp)]; exact e4, e5⟩
  refine ⟨fun cv hc ct h' tk x1 x2 => ?_, fun hc c' ct h' tk x1 x2 x3 x4 x5 => ?_⟩
  · obtain ⟨c', rfl, hco⟩ := ha pos cv hc
    refine q h'.objs.size c' dv pm ct H _ (I.kept fun b o e => Heap.get?_push_of_some _ (x1 b o e)) (LamX.ExtN.refl H) (fun _ z => z) hT (Heap.get?_push_size _ rfl) (I.hok.fresh x2) (nofr I x2) hco (dk (fun b o _ e => Heap.get?_push_of_some _ (x1 b o e)) fun _ _ _ => rfl)
  · obtain ⟨c2, oc, vs, t, e2, hoc, hdd, hv⟩ := x4
    cases e2
    have nC : H c' = none := I.hok.fresh x2
    have szl : s.heap.objs.size ≤ h'.objs.size := Nat.le_trans x2 (Nat.le_of_lt x3)
    have hP' : s.heap.get? P = some { cls := .none, data := .fields ps } := I.hok P _ hP
    have lP : P < s.heap.objs.size := Heap.lt_size hP'
    have up : ∀ b, b ≠ c' → b ≠ P → upd (upd H P (.tbl (ps ++ #[rawInt pos.line, rawInt pos.col, .ref c']))) c' (LamX.CodeO c' (X.env.qual ++ "<lambda>")) b = H b := fun b h1 h2 => by rw [upd_ne h1, upd_ne h2]
    have I1 := LamX.inv_table (t' := tk) (more := #[rawInt pos.line, rawInt pos.col, .ref c']) (h' := h'.push (obL (X.env.qual ++ "<lambda>") pr bd sc (cloFrom X.env.cells sc.names []) dv pm (.ref c') ct)) I hP
      (fun b o hb e => Heap.get?_push_of_some _ (x1 b o hb e)) (Heap.get?_push_of_some _ x5) x2 ⟨oc, vs, t, Heap.get?_push_of_some _ hoc, hdd, hv⟩
    have ex : LamX.ExtN H (upd (upd H P (.tbl (ps ++ #[rawInt pos.line, rawInt pos.col, .ref c']))) c' (LamX.CodeO c' (X.env.qual ++ "<lambda>"))) := by
      intro b o e n
      rw [up b (fun z => by rw [z, nC] at e; cases e) (fun z => by rw [z, hP] at e; cases e; exact n ps rfl)]
      exact e
    refine q h'.objs.size c' dv pm ct _ _ I1 ex (fun b z => ?_) (fun p hp => ?_) (Heap.get?_push_size _ rfl) ?_ (nofr I szl) upd_same (dk (fun b o hb e => Heap.get?_push_of_some _ (x1 b o hb e)) fun b h1 h2 => up b (fun z => h2 (by
      rw [z]
      exact Heap.get?_none_of_le x2)) h1)
    · by_cases h1 : b = c'
      · rw [h1, upd_same] at z
        cases z
      · by_cases h2 : b = P
        · rw [h2, upd_ne (fun y => by rw [y] at lP; exact Nat.lt_irrefl _ (Nat.lt_of_lt_of_le lP x2)), upd_same] at z
          cases z
        · rw [up b h1 h2] at z
          exact z
    · by_cases hb : p.1 = P
      · refine ⟨ps ++ #[rawInt pos.line, rawInt pos.col, .ref c'], ?_, ?_, fun p' cv hcv => ?_⟩
        · rw [hb, upd_ne (fun z => by rw [z] at lP; exact Nat.lt_irrefl _ (Nat.lt_of_lt_of_le lP x2)), upd_same]
        · rw [Array.toList_append]
          exact PySem.TriplesOk_snoc _ _ _ _ ht
        · rw [Array.toList_append] at hcv
          rw [hu p hp hb]
          rcases LamX.among_app _ ht hcv with z | z
          · obtain ⟨c0, e1, e2⟩ := ha p' cv z
            exact ⟨c0, e1, ex _ _ e2 LamX.codeO_ne⟩
          · exact ⟨c', z, upd_same⟩
      · obtain ⟨qs, a1, a2, a3⟩ := hT p hp
        refine ⟨qs, ?_, a2, fun p' cv hcv => ?_⟩
        · rw [up _ (fun z => by rw [z, nC] at a1; cases a1) hb]
          exact a1
        · obtain ⟨c0, e1, e2⟩ := a3 p' cv hcv
          exact ⟨c0, e1, ex _ _ e2 LamX.codeO_ne⟩
    · rw [up _ (Nat.ne_of_gt x3) (Nat.ne_of_gt (Nat.lt_of_lt_of_le lP szl))]
      exact I.hok.fresh szl
/-- a lambda of no parameters, or of one with an int for a default -/
theorem lam_made (I : Inv X pins σ H s) (tb : LamX.TabB X.base X.mg c P) (hcode : X.env.code = .ref c) (hm : (P, X.env.qual ++ "<lambda>") ∈ T) (hu : ∀ p ∈ T, p.1 = P → p.2 = X.env.qual ++ "<lambda>") (hT : LamX.Tabs T H) (hp : parB pr = true)
    (hfree : ∀ y ∈ sc.names, y.2 = .free → ∃ c, X.env.cells.lookup y.1 = some c) (q : Made X pins σ H T pr bd sc Q) : wpAny (model X.prog X.w) X.A (eval (.Lambda pr bd sc pos) X.env) Q X.xe s := by
  obtain ⟨ps, hP, ht, ha⟩ := hT _ hm
  have at_ : ∀ {s2 : Shared}, Inv X pins σ H s2 → MkAt s2 X.env sc c P ps X.mg (cloFrom X.env.cells sc.names []) := fun {s2} J =>
    ⟨closure_ok hfree, J.ok.glob, J.mod.glob.keeps J.bk, hcode, tb.code.keeps J.bk, J.hok P _ hP, ht, tb.gP, tb.bm.keeps J.bk⟩
  rw [arm_eval_Lambda]
  rcases par_cases hp with rfl | ⟨a, i, k, p, rfl⟩
  · refine wpAny_bind (wpAny_pure (wpAny_bind (wpAny_holding (wpAny_pure ?_))))
    rw [makeFunction_eq]
    exact mk_tail (at_ I) (mk_made I hm hu hT hP ht ha (.inl ⟨rfl, rfl⟩) q)
  · refine wpAny_bind ?_
    show wpAny (model X.prog X.w) X.A (do
      let v ← eval (.Constant (.int i) k p) X.env
      return v :: (← holding [v] (evalAll []))) _ _ s
    refine wpAny_bind (thn ((pe_int (X := X) (i := i) (j := k) (pos := p)).run pins s σ H (fun _ H' => H' = H) I rfl) fun v s1 hv => ?_)
    obtain ⟨x, H1, I1, r1, e1⟩ := hv
    rw [e1] at I1
    refine wpAny_bind (wpAny_holding (wpAny_pure (wpAny_pure (wpAny_bind (wpAny_holding (wpAny_pure ?_))))))
    rw [makeFunction_eq]
    refine wpAny_bind (wpAny_newTextTuple ?_)
    have I2 : Inv X pins σ H { s1 with heap := s1.heap.push { cls := .type "tuple", data := .seq [v].toArray } } := I1.kept (t' := s1.toks) fun b o e => Heap.get?_push_of_some _ e
    exact mk_tail (at_ I2) (mk_made I2 hm hu hT hP ht ha (.inr ⟨a, s1.heap.objs.size, v, rfl, rfl, Heap.get?_push_size _ rfl, I1.hok.fresh (Nat.le_refl _), nofr I1 (Nat.le_refl _)⟩) q)
end
end Wd
/-! Wd 23: a lambda is called by the def that got it. -/
namespace Wd
open PySem L2 PyProof.Rows PySem.Spec
/-- what is bound: each parameter to its default -/
theorem lam_binds {s : Shared} {fs : List Addr} {H : Hp} {qn : Str} {pr : Arguments} {bd : Expr} {sc : Scope} {cl : List (Str × Addr)} {dv pm cd ct : Value} (hp : parB pr = true) (h : DfO fs s.heap H pr dv) :
    ∃ bs : List (Str × Value), BindsTo s (fnL qn pr bd sc cl dv pm cd ct) ⟨[], []⟩ bs ∧ ∀ b ∈ bs, b.1 ∈ pr.args.map (·.arg) := by
  rcases par_cases hp with rfl | ⟨a, i, k, p, rfl⟩
  · rcases h with ⟨_, rfl⟩ | ⟨a, t, u, e, _⟩
    · exact ⟨[], .of_eq rfl, fun b hb => by cases hb⟩
    · cases e
  · rcases h with ⟨e, _⟩ | ⟨a2, t, u, e, rfl, ht, _⟩
    · cases e
    · cases e
      refine ⟨[(a.arg, u)], fun M A E Q q => ?_, fun b hb => by
        rw [List.mem_singleton] at hb
        rw [hb]
        exact List.mem_cons_self⟩
      unfold bindArgs
      refine wpAny_bind (wpAny_pure ?_)
      refine wpAny_bind (wpAny_seqItems ht rfl ?_)
      simp
      exact wpAny_pure q
/-- a lambda's names: its parameters, unlike the def's names; captured ones; globals -/
structure LamP (N : List Str) (sp : Scope) (pr : Arguments) (sc : Scope) : Prop where
  kind : sc.kind = .function
  co : sc.isCoroutine = false
  gen : sc.isGenerator = false
  par : ∀ x ∈ pr.args.map (·.arg), sc.names.lookup x = some .local
  cel : ∀ y ∈ sc.names, y.2 ≠ .cell
  loc : ∀ y ∈ sc.names, y.2 = .local → y.1 ∉ N
  fre : ∀ y ∈ sc.names, y.2 = .free → sp.names.lookup y.1 = some .cell ∨ sp.names.lookup y.1 = some .free
theorem lamP_ok {N : List Str} {sp : Scope} {pr : Arguments} {sc : Scope} (h : lamPB N sp pr sc = true) : LamP N sp pr sc := by
  simp only [lamPB, Bool.and_eq_true, Bool.not_eq_true', List.all_eq_true, decide_eq_true_eq] at h
  obtain ⟨⟨⟨⟨h1, h2⟩, h3⟩, h4⟩, h5⟩ := h
  refine ⟨?_, h2, h3, fun x hx => ?_, fun y hy e => ?_, fun y hy e => ?_, fun y hy e => ?_⟩
  · unfold kindB at h1
    split at h1
    · assumption
    · cases h1
  · obtain ⟨z, hz, rfl⟩ := List.mem_map.mp hx
    exact h4 z hz
  · have q := h5 y hy
    rw [e] at q
    cases q
  · have q := h5 y hy
    rw [e] at q
    exact of_decide_eq_true q
  · have q := h5 y hy
    rw [e] at q
    rcases Bool.or_eq_true_iff.mp q with q | q
    · exact .inl (of_decide_eq_true q)
    · exact .inr (of_decide_eq_true q)
theorem LamP.has {X : Cx} {pr : Arguments} {sc : Scope} (L : LamP X.N X.env.scope pr sc) (ok : X.Ok) : ∀ y ∈ sc.names, y.2 = .free → ∃ c, X.env.cells.lookup y.1 = some c := by
  intro y hy e
  exact (L.fre y hy e).elim (fun k => ok.has _ (.inl k)) fun k => ok.has _ (.inr k)
/-- the lambda's body under way -/
def lamC (X : Cx) (A : Around) (outer : List Env) (s : Shared) (H : Hp) (E : XK) (sc : Scope) (f c' : Addr) : Cx :=
  { prog := X.prog, w := X.w, K := X.K, mg := X.mg, base := X.base, A := A.deeper (LamX.lamEnv X sc s.heap.objs.size f c'), N := X.N, s_0 := s, H_0 := H, env := LamX.lamEnv X sc s.heap.objs.size f c',
    outer := outer, stack := LamX.lamEnv X sc s.heap.objs.size f c' :: outer, ex := [], fn := fun _ => false, calm := true, pn := [],
    xe := fun e s' => wpAny (model X.prog X.w) (A.deeper (LamX.lamEnv X sc s.heap.objs.size f c')) (leaving (LamX.lamEnv X sc s.heap.objs.size f c') e) (fun _ s2 => L2N.CX X.prog X.w outer H s E e s2) (fun e2 s2 => L2N.CX X.prog X.w outer H s E e2 s2) s' }
section
variable {X : Cx} {pins : List (Addr × Obj)} {σ : L2.St} {H HZ : Hp} {s s1 : Shared} {pr : Arguments} {sc : Scope} {f c' : Addr}
/-- the lambda's body begins -/
theorem lam_begin {A : Around} {outer : List Env} {E : XK} {g : Heap} {tk : Nat} {bs : List (Str × Value)} (I : Inv X pins σ H s) (L : LamP X.N X.env.scope pr sc) (e0 : Env0 X.prog X.w X.K X.mg X.base A outer s1 HZ) (hd : A.handled = none)
    (un : Un (frs X.stack) [] H HZ s.heap s1.heap) (hns : g.Ns s1.heap.objs.size fun y => bs.reverse.lookup y) (kp : ∀ b o, s1.heap.get? b = some o → g.get? b = some o) :
    Inv (lamC X A outer s1 HZ E sc f c') [] σ HZ { s1 with heap := g, toks := tk } := by
  have hf := L.has I.ok
  have cell_of : ∀ {y d}, (cloFrom X.env.cells sc.names []).lookup y = some d → X.env.cells.lookup y = some d := by
    intro y d e
    rcases cloFrom_mem (PySem.mem_of_lookup e) with hm | ⟨q1, q2⟩
    · cases hm
    · obtain ⟨d1, hd1⟩ := hf _ q1 rfl
      have hd2 : X.env.cells.lookup y = some d1 := hd1
      have : d = d1 := by rw [q2, hd2]; rfl
      rw [this]
      exact hd2
  have clo : ∀ {y}, sc.names.lookup y = some .free → ∃ d, (cloFrom X.env.cells sc.names []).lookup y = some d := fun {y} hl => mem_lookup (cloFrom_has (cells := X.env.cells) (acc := []) (PySem.mem_of_lookup hl))
  have cellK : ∀ {d : Addr} {v : Option Value}, H d = none → s.heap.IsCell d v → g.IsCell d v := by
    intro d v n ⟨o, ho, q⟩
    obtain ⟨sl, z⟩ := un.any ho n (by simp)
    exact ⟨_, kp _ _ z, q⟩
  have nex : ∀ b : Addr, b ∉ (lamC X A outer s1 HZ E sc f c').ex := fun b z => by cases z
  have ok : (lamC X A outer s1 HZ E sc f c').Ok := by
    refine ⟨e0.mod, L.kind, rfl, rfl, Nat.le_refl _, fun y z d q1 q2 => I.ok.inj y z d (cell_of q1) (cell_of q2), fun y hy => ?_, fun y d q _ => ?_, fun _ => hd, Around.frames_deeper e0.frames, .inr ⟨rfl, rfl⟩, fun b z => (nex b z).elim, e0.bs, e0.bsz, fun b _ _ => nex b, fun b z => (nex b z).elim, e0.funs, e0.frf⟩
    · have hy' : sc.names.lookup y = some .cell ∨ sc.names.lookup y = some .free := hy
      rcases hy' with q | q
      · exact (L.cel _ (PySem.mem_of_lookup q) rfl).elim
      · exact clo q
    · cases q
  refine ⟨ok, rfl, e0.bare, Un.kept kp, ⟨_, hns, fun i y v q1 q2 q3 => ?_⟩, fun y d e => ?_, e0.hok.fresh (Nat.le_refl _), fun y d e => ?_, fun p hp => ?_, e0.hok.kept kp, I.len⟩
  · have vis : sc.names.lookup y = some .local ∨ sc.names.lookup y = some .cell ∨ sc.names.lookup y = some .free := q3
    rcases vis with k | k | k
    · exact (L.loc _ (PySem.mem_of_lookup k) rfl (List.mem_of_getElem? (show X.N[i]? = some y from q1))).elim
    · exact (L.cel _ (PySem.mem_of_lookup k) rfl).elim
    · obtain ⟨m, _, look⟩ := I.loc
      have up : X.env.scope.names.lookup y = some .cell ∨ X.env.scope.names.lookup y = some .free := L.fre _ (PySem.mem_of_lookup k) rfl
      obtain ⟨u, r, z⟩ := look i y v q1 q2 (.inr up)
      obtain ⟨d, hd2⟩ := clo k
      refine ⟨u, r, .inr ⟨.inr k, d, hd2, ?_⟩⟩
      have hd3 := cell_of hd2
      rcases z with ⟨k2, _⟩ | ⟨_, d3, e3, z⟩
      · have k3 : X.env.scope.names.lookup y = some .local := k2
        rcases up with q | q <;> rw [q] at k3 <;> cases k3
      · rw [hd3] at e3
        cases e3
        exact cellK (I.freeC y _ hd3) z
  · obtain ⟨v, z⟩ := I.cell y d (cell_of e)
    exact ⟨v, cellK (I.freeC y d (cell_of e)) z⟩
  · obtain ⟨v, o, ho, _⟩ := I.cell y d (cell_of e)
    exact un.free d o ho (I.freeC y d (cell_of e)) (by simp)
  · cases (show p ∈ ([] : List (Addr × Obj)) ++ [] from hp)
/-- a(), within a def g that got the lambda as a: its context's text is under way from s on -/
theorem lam_act {CXg : CXT} {Eg : XK} {Ng : List Str} {qg : Str} {sg : Scope} {g : Addr} {cdg dv pm ct : Value} {bd : Expr} {k i : Nat} {a : Str} {pn : List (Addr × Obj)} {xe : Value → Shared → Prop} {W : WX} {E : XK} {tb : TE} {p1 p2 : Pos}
    (I : Inv X pins σ H s) (L : LamP X.N X.env.scope pr sc) (hp : parB pr = true) (hf : s.heap.get? f = some (obL (X.env.qual ++ "<lambda>") pr bd sc (cloFrom X.env.cells sc.names []) dv pm (.ref c') ct)) (hfn : H f = none) (hfr : f ∉ frs X.stack) (hdv : DfO (frs X.stack) s.heap H pr dv)
    (tk : L2N.Takes ((cxOf CXg X.prog X.w X.K X.mg X.base Ng qg sg g cdg X.A X.stack s H Eg).tr pn xe) W) (hW : ∀ cls d σ' H', E cls d H' → W cls d σ' H') (hr : Room (k + 1) (X.A.deeper (envOfC qg sg s.heap.objs.size g cdg))) (gd : X.A.guards = some [])
    (hbody : ∀ (A : Around) (outer : List Env) (s : Shared) (H : Hp), A.guards = some [] → Room k (A.deeper (LamX.lamEnv X sc s.heap.objs.size f c')) → PE (lamC X A outer s H E sc f c') bd tb)
    (hN : Ng[i]? = some a) (hv : Vis sg a) (hd : (a == ("__debug__" : Str)) = false) (hcd : (a == ("__classdict__" : Str)) = false) :
    PE ((cxOf CXg X.prog X.w X.K X.mg X.base Ng qg sg g cdg X.A X.stack s H Eg).tr pn xe) (.Call (.Name a p1) [] [] p2) (fun σZ HZ Q => σZ[i]? = some (some (.ref f)) ∧ HZ c' = some (LamX.CodeO c' (X.env.qual ++ "<lambda>")) ∧ tb σ HZ Q) := by
  refine ⟨fun pinsZ sZ σZ HZ Q IZ h => ?_⟩
  obtain ⟨h1, h2, h3⟩ := h
  have pv := (pe_var (X := (cxOf CXg X.prog X.w X.K X.mg X.base Ng qg sg g cdg X.A X.stack s H Eg).tr pn xe) (pos := p1) (i := i) hN hv hd hcd).run pinsZ sZ σZ HZ (fun v H1 => v = .ref f ∧ H1 = HZ) IZ ⟨.ref f, h1, rfl, rfl⟩
  refine wpAny_Call_Name_kw (thn pv fun u s1 hq => ?_)
  obtain ⟨v, H1, I1, r1, rfl, rfl⟩ := hq
  have eu : u = Value.ref f := r1
  rw [eu]
  have un : Un (frs X.stack) [] H H1 s.heap s1.heap := I1.base
  have of1 := un.keep f _ hf hfn hfr (fun z => by cases z)
  have dv1 : DfO (frs X.stack) s1.heap H pr dv := by
    rcases hdv with z | ⟨a2, t, w, e1, e2, e3, e4, e5⟩
    · exact .inl z
    · exact .inr ⟨a2, t, w, e1, e2, un.keep t _ e3 e4 e5 (fun z => by cases z), e4, e5⟩
  obtain ⟨bs, hbs, hbm⟩ := lam_binds (qn := X.env.qual ++ "<lambda>") (bd := bd) (sc := sc) (cl := cloFrom X.env.cells sc.names []) (pm := pm) (cd := .ref c') (ct := ct) hp dv1
  refine PySem.W.callWith_F0 ⟨_, _, _, _, of1⟩ ?_
  obtain ⟨⟨oc, vs, t, hoc, hdc, hvc⟩, _, _⟩ := I1.hok c' _ h2
  have run : codeAny (model X.prog X.w) (X.A.deeper (envOfC qg sg s.heap.objs.size g cdg)) (.call (.ref f) ⟨[], []⟩) (CR (L2N.CX X.prog X.w) (envOfC qg sg s.heap.objs.size g cdg :: X.stack) X.prog X.w H1 s1 Q E) s1 := by
    refine PySem.W.kla_callFunE hr.depth of1 rfl L.co L.gen rfl ⟨c', oc, vs, t, rfl, hoc, hdc, hvc⟩ (hbs _ _ _ _ ?_)
    refine wpAny_newFunctionEnv (fun y hy => L.cel y hy) (fun b hb => L.par _ (hbm b hb)) (fun g' hns hsb => ⟨I1.nolimit.fresh _ hsb, ?_⟩) L.kind
    show codeAny _ _ (.expr bd (LamX.lamEnv X sc s1.heap.objs.size f c')) _ _
    have kp : ∀ b o, s1.heap.get? b = some o → g'.get? b = some o := by
      intro b o e
      exact hsb.extBut b o (Nat.ne_of_lt (Heap.lt_size e)) (Heap.get?_push_of_some _ e)
    have J : Inv (lamC X (X.A.deeper (envOfC qg sg s.heap.objs.size g cdg)) (envOfC qg sg s.heap.objs.size g cdg :: X.stack) s1 H1 E sc f c') [] σ H1 { s1 with heap := g', toks := s1.toks + bs.length } :=
      lam_begin I L I1.env0 hr.hd un hns kp
    have body := (hbody (X.A.deeper (envOfC qg sg s.heap.objs.size g cdg)) (envOfC qg sg s.heap.objs.size g cdg :: X.stack) s1 H1 gd (hr.deeper _)).run [] _ _ H1 Q J h3
    refine PySem.W.kla_codeExpr (wpAny_mono body (fun v s' hq => ?_) fun e s' hq => hq)
    obtain ⟨x, H2, J2, rv, q⟩ := hq
    exact ⟨x, H2, J2.os, J2.bare, J2.base, J2.hok, rv, q⟩
  have px := L2N.passes_call tk hW
  refine wpAny_call (codeAny_mono run fun r s' hq => ?_)
  match r, hq with
  | .error e, hq => exact px pinsZ σZ H1 s1 e s' I1 hq
  | .ok (.ret u), hq => exact I1.after hq
  | .ok .next, hq => exact hq.elim
  | .ok .brk, hq => exact hq.elim
  | .ok .cont, hq => exact hq.elim
end
end Wd
/-! Wd 24: a comprehension over a range, within an except suite. -/
namespace Wd
open PySem L2 PyProof.Rows PySem.Spec L2H HotX
/-- an iterator's turns where an exception may be handled around -/
structure TurnW (P : Program) (w : World) (K : PySem.W.Frag) (tg : Expr) (J : It) (fp : List Addr) (it : Addr) (tn : Nat → Heap → Prop) : Prop where
  obj : ∀ i h, tn i h → ∀ b ∈ fp, ∃ o, h.get? b = some o ∧ ∀ v, o.data ≠ .cell v
  keep : ∀ i h h', tn i h → (∀ b ∈ fp, ∀ o, h.get? b = some o → h'.get? b = some o) → tn i h'
  item : ∀ (Y : Cx), Y.prog = P → Y.w = w → Y.K = K → ∀ (i : Nat) (s : Shared) (σ : L2.St) (H : Hp), Inv Y [] σ H s → (∀ b ∈ fp, FpOk Y [] H b) → tn i s.heap → J.go i H →
    wpAny (model P w) Y.A (pyNext (.ref it)) (fun r s1 => ∃ u, r = some u ∧ wpAny (model P w) Y.A (letOwnedTupleGo tg (.ref it) u) (fun _ s2 => ∃ x H', Inv Y [] σ H' s2 ∧ L2.RelV x u ∧ J.yld i H x H' ∧ tn (i + 1) s2.heap ∧ ∀ b ∈ fp, H' b = none) (fun _ _ => False) s1) (fun _ _ => False) s
  done : ∀ (Y : Cx), Y.prog = P → Y.w = w → Y.K = K → ∀ (i : Nat) (s : Shared) (σ : L2.St) (H : Hp), (∃ x1, HotAt Y.A x1 s.heap) → Inv Y [] σ H s → (∀ b ∈ fp, FpOk Y [] H b) → tn i s.heap → J.stop i H →
    wpAny (model P w) Y.A (pyNext (.ref it)) (fun r s1 => r = none ∧ Inv Y [] σ H s1) (fun _ _ => False) s
  self : ∀ (A : Around) (i : Nat) (s : Shared) (Q : Value → Shared → Prop) (E : Value → Shared → Prop), tn i s.heap → Q (.ref it) s → wpAny (model P w) A (pyIter (.ref it)) Q E s
/-- where a range's iterator stands -/
abbrev atR (it : Addr) (lo : Int) (n : Nat) : Nat → Heap → Prop := fun i h => IsRangeIter h it (lo + (i : Nat) * 1) ((n : Int) - (i : Nat)) 1
theorem turn_rng {P : Program} {w : World} {K : PySem.W.Frag} {tg : Expr} (it : Addr) (lo : Int) (n : Nat) : TurnW P w K tg (Itr lo n) [it] it (atR it lo n) := by
  constructor
  · intro i h st b hb
    rw [List.mem_singleton] at hb
    subst hb
    refine ⟨_, st, fun v z => ?_⟩
    cases (show Data.fields _ = Data.cell v from z)
  · intro i h h' st k
    exact k it List.mem_cons_self _ st
  · intro Y hP hw hK i s σ H I hf st hg
    subst hP hw hK
    have ff := hf it List.mem_cons_self
    have hlt : i < n := hg
    refine wpAny_pyNext_range_item st (by omega) fun h' st' sb => ?_
    have e1 : lo + ((i : Nat) : Int) * 1 + 1 = lo + ((i + 1 : Nat) : Int) * 1 := by omega
    have e2 : (n : Int) - ((i : Nat) : Int) - 1 = (n : Int) - ((i + 1 : Nat) : Int) := by omega
    rw [e1, e2] at st'
    have I1 : Inv Y [] σ H { s with heap := h', toks := s.toks + 1 } := I.turned (fun b o hb e => (sb.2 b hb).trans e) ff.1 ff.2.1 ff.2.2.2.1 ff.2.2.2.2.1 ff.2.2.2.2.2
    refine ⟨_, rfl, go_of (s := { s with heap := h', toks := s.toks + 1 }) (n := "range_iterator") st' rfl rfl (by decide) ⟨.int (lo + i), H, I1, ⟨s.toks, ?_⟩, ⟨rfl, rfl⟩, st', fun b hb => (hf b hb).1⟩⟩
    rw [Int.mul_one]
  · intro Y hP hw hK i s σ H hot I hf st hg
    subst hP hw hK
    have ff := hf it List.mem_cons_self
    obtain ⟨x1, hot⟩ := hot
    have hle : n ≤ i := hg
    exact pyNext_range_end_hot hot st (by omega) fun h' eb => ⟨rfl, I.turned (t' := s.toks) (fun b o _ e => eb b o e) ff.1 ff.2.1 ff.2.2.2.1 ff.2.2.2.2.1 ff.2.2.2.2.2⟩
  · intro A i s Q E st h
    exact wpAny_pyIter_rangeiter st h
def PIEW (X : Cx) (pins : List (Addr × Obj)) (σ : L2.St) (tg : Expr) (R : It → Hp → Prop) (v : Value) (s : Shared) : Prop :=
  ∃ (it : Addr) (fp : List Addr) (tn : Nat → Heap → Prop) (J : It) (H' : Hp), v = .ref it ∧ Inv X pins σ H' s ∧ TurnW X.prog X.w X.K tg J fp it tn ∧ tn 0 s.heap ∧ (∀ b ∈ fp, FpOk X pins H' b) ∧ R J H'
def PIW (X : Cx) (tg iter : Expr) (wi : TI) : Prop := ∀ (pins : List (Addr × Obj)) (s : Shared) (σ : L2.St) (H : Hp) (R : It → Hp → Prop), Inv X pins σ H s → wi σ H R →
  wpAny (model X.prog X.w) X.A (eval iter X.env) (fun v s1 => wpAny (model X.prog X.w) X.A (pyIter v) (PIEW X pins σ tg R) X.xe s1) X.xe s
theorem piw_range {X : Cx} {tg : Expr} {i : Int} {j : Nat} {p p2 pos : Pos} (hg : Gl X "range") (hm : X.mg "range" = none) (h0 : 0 ≤ i) (h1 : i < 2 ^ 62) : PIW X tg (.Call (.Name "range" p) [.Constant (.int i) j p2] [] pos) (fun _ H R => R (Itr 0 i.toNat) H) := by
  intro pins s σ H R I h
  have args := (pa_cons (X := X) (pe_int (X := X) (i := i) (j := j) (pos := p2)) pa_nil).run pos pins s σ H (fun vs H' => vs = [V.int i] ∧ H' = H) I ⟨rfl, rfl⟩
  refine Call_ (ld_blt I hg hm boot_range (PyProof.Rows.callWith_type1 (thn args fun us s1 hq => ?_) rfl rfl))
  obtain ⟨vs, H1, I1, r1, rfl, rfl⟩ := hq
  cases r1 with
  | cons r rr =>
    cases rr
    obtain ⟨t, rfl⟩ := r
    refine call_range_1 ?_
    refine wpAny_pyIter_range (IsRange.new ..) (small_one (by omega) (by omega) (by omega) h1) ?_
    refine ⟨_, [_], _, _, H1, rfl, I1.kept fun b o e => Heap.get?_push_of_some _ (Heap.get?_push_of_some _ e), turn_rng _ 0 i.toNat, ?_, fun b hb => ?_, h⟩
    · show IsRangeIter _ _ (0 + ((0 : Nat) : Int) * 1) (((i.toNat : Nat) : Int) - ((0 : Nat) : Int)) 1
      have e1 : (0 : Int) + ((0 : Nat) : Int) * 1 = 0 := by simp
      have e2 : ((i.toNat : Nat) : Int) - ((0 : Nat) : Int) = Builtin.Range.rangeSize 0 i 1 := by
        rw [rangeSize_one]
        split <;> omega
      rw [e1, e2]
      exact Heap.get?_push_size _ rfl
    · rw [List.mem_singleton] at hb
      subst hb
      exact I1.fpOk (by rw [Heap.size_push]; exact Nat.le_succ _) (I1.hok.fresh (by rw [Heap.size_push]; exact Nat.le_succ _))
section
variable {X : Cx}
/-- the exception that the suite holds, kept in a block -/
theorem hot_in {pins : List (Addr × Obj)} {σ σ' : L2.St} {H H5 : Hp} {s s5 : Shared} {sc : Scope} {ce : Env} {fp : List Addr} (hc : HotC X) (I : Inv X pins σ H s) (hfp : ∀ b ∈ fp, FpOk X pins H b) (J : Inv (X.blk s H sc ce fp) [] σ' H5 s5) : ∃ x1, HotAt X.A x1 s5.heap := by
  obtain ⟨p, ⟨hh, vs, e1, e2⟩, hp⟩ := hc
  obtain ⟨q1, q2, q3, q4, _⟩ := I.pin p (List.mem_append_left _ hp)
  refine ⟨p.1, hh, p.2, vs, ?_, e1, e2⟩
  refine J.base.keep p.1 p.2 q1 q2 (fun z => ?_) (fun z => ?_)
  · rcases I.ok.stk with k | ⟨k, kf⟩
    · have z' : p.1 ∈ frs X.stack := z
      rw [k] at z'
      exact q4 z'
    · have z' : p.1 ∈ frs X.stack := z
      rw [k] at z'
      unfold frs at z'
      rw [List.filterMap_cons, kf] at z'
      rcases List.mem_cons.mp z' with z2 | z2
      · exact q3 z2
      · exact q4 z2
  · exact (hfp p.1 z).2.2.2.2.2 p (List.mem_append_left _ hp) rfl
/-- the walk of such a comprehension -/
theorem hot_core {pins : List (Addr × Obj)} {s : Shared} {σ : L2.St} {H : Hp} {Q : VK} {elt tg iter : Expr} {ifs : List Expr} {scope : Scope} {own : List (Str × Nat)} {pos pos2 : Pos} {wi : TI} {g : TG} {tt : TT} {te : TE} {use : Option (Value → Sem Unit)} {Qf : Value → Shared → Prop}
    (hc : HotC X) (hN : X.N.Nodup) (I : Inv X pins σ H s) (hi : PIW X tg iter wi) (ok : BlkOk X.N X.env.scope scope own)
    (hg : ∀ (s : Shared) (H : Hp) (C : Addr) (l : List (Str × Addr)) (fp : List Addr), PG (X.blk s H scope (compEnvC scope l C X.env) fp) tg g) (ht : ∀ (s : Shared) (H : Hp) (C : Addr) (l : List (Str × Addr)) (fp : List Addr), PTs (X.blk s H scope (compEnvC scope l C X.env) fp) ifs tt)
    (he : ∀ (s : Shared) (H : Hp) (C : Addr) (l : List (Str × Addr)) (fp : List Addr), PE (X.blk s H scope (compEnvC scope l C X.env) fp) elt te) (hs : ∀ x, foldedSetIterable iter X.env x = pure x)
    (h : tLc wi g tt te (own.map (·.2)) σ H Q)
    (fin : ∀ D C s' m H', Inv X pins σ H' s' → Q (.ref D) H' → s'.heap.Ns C m → FpOk X pins H' C → compPost (model X.prog X.w) X.A X.xe use Qf (.ref D) C (.ok .next) s') :
    wpAny (model X.prog X.w) X.A (comprehension (.ListComp elt [⟨tg, iter, ifs, 0⟩] scope pos) scope X.env pos2 (newList []) false (eval iter X.env) use) Qf X.xe s := by
  have hfree : ∀ y ∈ scope.names, y.2 = .free → ∃ c, X.env.cells.lookup y.1 = some c := by
    intro y hy e
    exact (ok.free y hy e).elim (fun k => I.ok.has _ (.inl k)) fun k => I.ok.has _ (.inr k)
  refine wpAny_comprehension_free (use := use) rfl hs (closure_ok hfree) ok.kind (fun y hy e => by rw [ok.uniq y hy, e]) (thn (hi pins s σ H _ I h) fun xv s1 hx => thn hx fun itv s2 h2 => ?_)
  obtain ⟨it, fp, tn, J, H2, rfl, I2, T, st2, f2, q⟩ := h2
  refine wpAny_newObj_type (newEnv_comp ?_) (by show 0 ≤ sizeLine; decide)
  have hDn : H2 s2.heap.objs.size = none := I2.hok.fresh (Nat.le_refl _)
  obtain ⟨Wp, ⟨m0, w0⟩, turn⟩ := q _ hDn
  have I3 : Inv X pins σ (upd H2 s2.heap.objs.size (.lst [])) { s2 with heap := s2.heap.push { cls := .type "list", data := .seq ([] : List Value).toArray } } :=
    I2.laid (t' := s2.toks) (fun b o e => Heap.get?_push_of_some _ e) (Nat.le_refl _) ⟨Nat.zero_le _, [], 0, .nil, Heap.get?_push_size _ rfl⟩
  have lt2 : ∀ b ∈ fp, b < s2.heap.objs.size := by
    intro b hb
    obtain ⟨o, e, _⟩ := T.obj _ _ st2 b hb
    exact Heap.lt_size e
  have f3 : ∀ b ∈ fp, FpOk X pins (upd H2 s2.heap.objs.size (.lst [])) b ∧ b < (s2.heap.push { cls := .type "list", data := .seq ([] : List Value).toArray }).objs.size := by
    intro b hb
    refine ⟨⟨?_, (f2 b hb).2⟩, by rw [Heap.size_push]; exact Nat.lt_succ_of_lt (lt2 b hb)⟩
    rw [upd_ne (Nat.ne_of_lt (lt2 b hb))]
    exact (f2 b hb).1
  have st3 : tn 0 (s2.heap.push { cls := .type "list", data := .seq ([] : List Value).toArray }) := T.keep _ _ _ st2 fun b _ o e => Heap.get?_push_of_some _ e
  generalize hD : s2.heap.objs.size = D at *
  generalize hH3 : upd H2 D (.lst []) = H3 at *
  generalize hs3 : ({ s2 with heap := s2.heap.push { cls := .type "list", data := .seq ([] : List Value).toArray } } : Shared) = s3 at I3 ⊢
  have h3 : s2.heap.push { cls := .type "list", data := .seq ([] : List Value).toArray } = s3.heap := by rw [← hs3]
  rw [h3] at f3 st3
  have I4 := block_start I3 ok hN f3
  have pg := hg s3 H3 s3.heap.objs.size (cellsFrom (s3.heap.objs.size + 1) scope.names (cloFrom X.env.cells scope.names [])) fp
  have pt := ht s3 H3 s3.heap.objs.size (cellsFrom (s3.heap.objs.size + 1) scope.names (cloFrom X.env.cells scope.names [])) fp
  have pe := he s3 H3 s3.heap.objs.size (cellsFrom (s3.heap.objs.size + 1) scope.names (cloFrom X.env.cells scope.names [])) fp
  show codeAny _ _ (.compStart (.ListComp elt [⟨tg, iter, ifs, 0⟩] scope pos) 0 (.ref it) (.ref D) (compEnvC scope (cellsFrom (s3.heap.objs.size + 1) scope.names (cloFrom X.env.cells scope.names [])) s3.heap.objs.size X.env)) (compPost (model X.prog X.w) X.A X.xe use Qf (.ref D) s3.heap.objs.size) { s3 with heap := pushCells (s3.heap.push { cls := .type "dict", data := .dict #[] }) scope.names }
  have hot := fun {σ' : L2.St} {H' : Hp} {s' : Shared} (Jv : Inv (X.blk s3 H3 scope (compEnvC scope (cellsFrom (s3.heap.objs.size + 1) scope.names (cloFrom X.env.cells scope.names [])) s3.heap.objs.size X.env) fp) [] σ' H' s') => hot_in hc I3 (fun b hb => (f3 b hb).1) Jv
  have cL : (compEnvC scope (cellsFrom (s3.heap.objs.size + 1) scope.names (cloFrom X.env.cells scope.names [])) s3.heap.objs.size X.env).locals = s3.heap.objs.size := rfl
  generalize compEnvC scope (cellsFrom (s3.heap.objs.size + 1) scope.names (cloFrom X.env.cells scope.names [])) s3.heap.objs.size X.env = ce at *
  have st4 : tn 0 (pushCells (s3.heap.push { cls := .type "dict", data := .dict #[] }) scope.names) := T.keep _ _ _ st3 fun b _ o e => pushCells_keeps _ _ _ _ (Heap.get?_push_of_some _ e)
  have nfp : ∀ b ∈ fp, H3 b = none := fun b hb => (f3 b hb).1.1
  have stat : ∀ {σ' : L2.St} {H' : Hp} {s' : Shared}, Inv (X.blk s3 H3 scope ce fp) [] σ' H' s' → (∀ b ∈ fp, H' b = none) → ∀ b ∈ fp, FpOk (X.blk s3 H3 scope ce fp) [] H' b := by
    intro σ' H' s' J' hn b hb
    refine ⟨hn b hb, (J'.ok.exf b hb).1, J'.ok.exfs b hb, .inl hb, fun x c e => (J'.ok.exf b hb).2 x c e, fun p hp => ?_⟩
    cases (show p ∈ ([] : List (Addr × Obj)) ++ [] from hp)
  have nb : ∀ b ∈ fp, (b ∈ X.ex ∨ X.s_0.heap.objs.size ≤ b) ∧ b ≠ X.env.locals ∧ (∀ x c, X.env.cells.lookup x = some c → c ≠ b) ∧ ∀ p ∈ X.pn ++ pins, p.1 ≠ b := by
    intro b hb
    have z := (f3 b hb).1
    exact ⟨z.2.2.2.1, z.2.1, z.2.2.2.2.1, z.2.2.2.2.2⟩
  have loop : codeAny (model X.prog X.w) X.A (.compLoop (.ListComp elt [⟨tg, iter, ifs, 0⟩] scope pos) 0 (.ref it) (.ref D) ce) (compPost (model X.prog X.w) X.A X.xe use Qf (.ref D) s3.heap.objs.size) { s3 with heap := pushCells (s3.heap.push { cls := .type "dict", data := .dict #[] }) scope.names } := by
    refine compLoop_any (fun n s' => ∃ i H', Inv (X.blk s3 H3 scope ce fp) [] (wipe σ (own.map (·.2))) H' s' ∧ tn i s'.heap ∧ (∀ b ∈ fp, H' b = none) ∧ Wp i n H') ?_ m0 ⟨0, H3, I4, st4, nfp, w0⟩
    intro n s5 hh
    obtain ⟨i, H5, I5, st5, n5, w5⟩ := hh
    rcases turn i n H5 w5 with ⟨stop, qq⟩ | ⟨go, Nx, hNx, step⟩
    · -- the end: back in the def's context
      have td := T.done (X.blk s3 H3 scope ce fp) rfl rfl rfl i s5 _ H5 (hot I5) I5 (stat I5 n5) st5 stop
      refine thnF td fun r s6 hr6 => ?_
      obtain ⟨rfl, I6⟩ := hr6
      have I7 : Inv X pins σ H5 s6 := I3.call' (ch := fp) I6.os I6.base I6.hok I6.bare nb
      have nC : H5 s3.heap.objs.size = none := by
        have z : H5 ce.locals = none := I6.free
        rw [cL] at z
        exact z
      obtain ⟨m, hn, _⟩ := I6.loc
      have hn2 : s6.heap.Ns ce.locals m := hn
      rw [cL] at hn2
      exact fin D s3.heap.objs.size s6 m H5 I7 qq hn2 (I3.fpOk (Nat.le_refl _) nC)
    · have ti := T.item (X.blk s3 H3 scope ce fp) rfl rfl rfl i s5 _ H5 I5 (stat I5 n5) st5 go
      refine thnF ti fun r s6 hr6 => ?_
      obtain ⟨u, rfl, h6⟩ := hr6
      refine thnF h6 fun _ s7 hs7 => ?_
      obtain ⟨x, H7, I7, r7, y7, st7, n7⟩ := hs7
      have I7p := I7.pinned (stat I7 n7) (T.obj _ _ st7)
      refine thnF (pg.run _ s7 _ H7 x u _ I7p r7 (step x H7 y7)) fun _ s8 hs8 => ?_
      obtain ⟨σ8, H8, I8, hw8, q8⟩ := hs8
      refine thnF (pt.run _ s8 σ8 H8 _ I8 q8) fun b s9 hs9 => ?_
      obtain ⟨H9, I9, q9⟩ := hs9
      have next : ∀ {s' : Shared} {H' : Hp}, Inv (X.blk s3 H3 scope ce fp) ([] ++ pinsAt fp s7.heap) σ8 H' s' → Nx H' → ∃ m, m < n ∧ ∃ i H', Inv (X.blk s3 H3 scope ce fp) [] (wipe σ (own.map (·.2))) H' s' ∧ tn i s'.heap ∧ (∀ b ∈ fp, H' b = none) ∧ Wp i m H' := by
        intro s' H' J' nx
        obtain ⟨m', hm, w'⟩ := hNx H' nx
        have kept : ∀ b ∈ fp, ∀ o, s7.heap.get? b = some o → s'.heap.get? b = some o ∧ H' b = none := by
          intro b hb o e
          have z := J'.pin (b, o) (List.mem_append_right _ (List.mem_append_right _ (mem_pinsAt hb e)))
          exact ⟨z.1, z.2.1⟩
        have len : (wipe σ (own.map (·.2))).length = σ8.length := by rw [← hw8, wipe_length]
        refine ⟨m', hm, i + 1, H', (J'.unpinned (pins := [])).weak len (fun j v e => ?_), T.keep _ _ _ st7 fun b hb o e => (kept b hb o e).1, fun b hb => ?_, w'⟩
        · rw [← hw8] at e
          exact (wipe_some e).1
        · obtain ⟨o, e, _⟩ := T.obj _ _ st7 b hb
          exact (kept b hb o e).2
      cases b with
      | false =>
        simp only [Bool.false_eq_true, if_false] at q9 ⊢
        exact next I9 q9
      | true =>
        simp only [if_true] at q9 ⊢
        refine thnF (pe.run _ s9 σ8 H9 _ I9 q9) fun z s10 hz => ?_
        obtain ⟨yv, H10, I10, r10, acc, hD10, hz10, nx⟩ := hz
        exact app_ok (X := X.blk s3 H3 scope ce fp) I10 hD10 hz10 r10 fun s11 I11 => next I11 nx
  exact codeAny_compStart_list loop (T.self X.A 0 _ _ _ st4 loop)
end
end Wd
/-! Wd 25: an except suite's statements. -/
namespace Wd
open PySem L2 PyProof.Rows PySem.Spec L2H HotX
section
variable {X : Cx} {TB : TL} {W : WEx} {H0 : Hp} {M : Option Addr}
/-- name = [.. for .. in range(..) if ..] on one line -/
theorem ps_setHot {i : Nat} {y : Str} {py : Pos} {elt tg iter : Expr} {ifs : List Expr} {scope : Scope} {own : List (Str × Nat)} {pos spos : Pos} {wi : TI} {g : TG} {tt : TT} {te : TE} (hc : HotC X) (hN : X.N.Nodup) (hy : X.N[i]? = some y) (hl : X.env.scope.names.lookup y = some .local)
    (hsw : swapsWith (.ListComp elt [⟨tg, iter, ifs, 0⟩] scope pos) (some (.Name y py)) spos.line X.env = pure true) (hi : PIW X tg iter wi) (ok : BlkOk X.N X.env.scope scope own)
    (hg : ∀ (s : Shared) (H : Hp) (C : Addr) (l : List (Str × Addr)) (fp : List Addr), PG (X.blk s H scope (compEnvC scope l C X.env) fp) tg g) (ht : ∀ (s : Shared) (H : Hp) (C : Addr) (l : List (Str × Addr)) (fp : List Addr), PTs (X.blk s H scope (compEnvC scope l C X.env) fp) ifs tt)
    (he : ∀ (s : Shared) (H : Hp) (C : Addr) (l : List (Str × Addr)) (fp : List Addr), PE (X.blk s H scope (compEnvC scope l C X.env) fp) elt te) (hs : ∀ x, foldedSetIterable iter X.env x = pure x) :
    PS X (.Assign [.Name y py] (.ListComp elt [⟨tg, iter, ifs, 0⟩] scope pos) spos) (tAsg (tLc wi g tt te (own.map (·.2))) (gName i)) := by
  refine ⟨fun pins s σ H D I h => ?_⟩
  rw [exec_Assign_Name_used _ _ _ _ hsw]
  refine wpAny_bind (wpAny_standAt (wpAny_bind ?_))
  have h2 : tLc wi g tt te (own.map (·.2)) σ H (fun x H1 => gName i x σ H1 D.nx) := h
  show wpAny _ X.A (do
    let _ ← comprehension (.ListComp elt [⟨tg, iter, ifs, 0⟩] scope pos) scope X.env (firstIterPos [⟨tg, iter, ifs, 0⟩] pos) (newList []) false (eval iter X.env) (some (assign (.Name y py) X.env))) _ _ s
  refine wpAny_bind (thn (hot_core (pos := pos) (Qf := fun _ s2 => SP X pins D .next s2) hc hN I hi ok hg ht he hs h2 fun L C s2 m H' I' q hn f => ?_) fun _ s2 hq => wpAny_pure (wpAny_pure hq))
  show wpAny _ _ (assign (.Name y py) X.env (.ref L)) _ _ _
  refine wpAny_assign_Name (store_ok2 (v := V.ref L) I' hN hy (.inl hl) rfl (fun s3 I3 hsb => ?_) (.inr hl))
  obtain ⟨a, sb, ha⟩ := hsb
  have ne : C ≠ a := by
    rcases ha with z | z
    · rw [z]
      exact f.2.1
    · exact fun e => f.2.2.2.2.1 y a z e.symm
  refine ⟨m, hn.sameBut sb ne, fun h4 sb4 => ?_⟩
  exact ⟨_, H', I3.turned (t' := s3.toks) (fun b o hb e => (sb4.2 b hb).trans e) f.1 f.2.1 f.2.2.2.1 f.2.2.2.2.1 f.2.2.2.2.2, q⟩
/-- a comprehension's parts there -/
structure LcHot (X : Cx) (TB : TL) (W : WEx) (elt tg iter : Expr) (ifs : List Expr) (scope : Scope) (own : List (Str × Nat)) (g : Tg) (fi : DEnv → R (List PyData)) (ft : DEnv → R Bool) (fe : DEnv → R PV) : Prop where
  ok : BlkOk X.N X.env.scope scope own
  tgo : ∀ i ∈ tgs g, i ∈ own.map (·.2)
  it : ∃ wi : TI, PIW X tg iter wi ∧ Snd X.K TB W wi fi (fun _ H' _ _ J xs => ItD X.K J H' xs)
  hg : ∀ (s : Shared) (H : Hp) (C : Addr) (l : List (Str × Addr)) (fp : List Addr), SoG (X.blk s H scope (compEnvC scope l C X.env) fp) TB tg g
  ht : ∀ (s : Shared) (H : Hp) (C : Addr) (l : List (Str × Addr)) (fp : List Addr), SoTs (X.blk s H scope (compEnvC scope l C X.env) fp) TB noW ifs ft
  he : ∀ (s : Shared) (H : Hp) (C : Addr) (l : List (Str × Addr)) (fp : List Addr), SoE (X.blk s H scope (compEnvC scope l C X.env) fp) TB noW elt fe
  fs : ∀ x, foldedSetIterable iter X.env x = pure x
theorem so_sethot {j : Nat} {x : Str} {px spos pos : Pos} {elt tg iter : Expr} {ifs : List Expr} {scope : Scope} {own : List (Str × Nat)} {g : Tg} {fi : DEnv → R (List PyData)} {ft : DEnv → R Bool} {fe : DEnv → R PV} (hc : HotC X) (hN : X.N.Nodup) (hj : X.N[j]? = some x) (hx : X.env.scope.names.lookup x = some .local)
    (hs : swapsWith (.ListComp elt [⟨tg, iter, ifs, 0⟩] scope pos) (some (.Name x px)) spos.line X.env = pure true) (hm : j ≠ 0 ∨ M = none) (L : LcHot X TB W elt tg iter ifs scope own g fi ft fe) :
    SoS X TB W H0 M (.Assign [.Name x px] (.ListComp elt [⟨tg, iter, ifs, 0⟩] scope pos) spos) (fun e => (lcF g (own.map (·.2)) fi ft fe e).bind fun p e1 => match tak p e1 with
    | some (v, e2) => if j < e2.length then .ok .nx (e2.set j (some v)) else .bad
    | none => .bad) := by
  obtain ⟨wi, pi, si⟩ := L.it
  have s := lc_snd (ft := ft) (fe := fe) L.tgo si
  refine ⟨_, ps_setHot hc hN hj hx hs pi L.ok (g := canG X.K TB g) (tt := can X.K TB noW ft RT) (fun s H C l fp => (L.hg s H C l fp).can) (fun s H C l fp => (L.ht s H C l fp).can) (fun s H C l fp => pe_gf (te := can X.K TB noW fe (RE X.K)) (L.he s H C l fp).can) L.fs, fun D σ H env i k => ?_⟩
  show tLc wi _ _ _ _ σ H fun v H1 => D.nx (σ.set j (some v)) H1
  refine use_snd s i k fun a env1 b H1 hfe e1 r i1 k1 => ?_
  cases a with
  | slot n => exact (lcF_val hfe).elim
  | val v =>
    simp only [tak] at k1
    split at k1
    · rename_i hlt
      exact k1 _ H1 (Stay.refl _) (i1.setv hlt hm (pr_ret i e1 r).1 (pr_ret i e1 r).2)
    · exact k1.elim
/-! ### the other forms, where a caught error is handled -/
theorem so_hlen {e : Expr} {p pos : Pos} {fs : DEnv → R (List PyData)} (hg : Gl X "len") (hm : X.mg "len" = none) (he : starEach [e] X.env = [(false, eval e X.env)]) (ha : SoP X TB W [e] fs) : SoE X TB W (.Call (.Name "len" p) [e] [] pos) (fun e => (fs e).bind fun xs e1 => lift1 ((bLen xs).map .val) e1) := by
  obtain ⟨t, pt, st⟩ := ha
  refine ⟨_, pe_callB call_len hg hm boot_len pt (by decide) (by decide) he rfl, fun σ H env re => ?_⟩
  show SndAt X.K TB W σ H env (fun Q => t σ H fun vs H1 => rLen X.K vs H1 Q) _ _
  refine sa_bind (st σ H env re) fun vs xs H1 env1 e1 r1 => ?_
  refine lift1_sa fun pv hp => ?_
  rw [Option.map_eq_some_iff] at hp
  obtain ⟨dv, hd, rfl⟩ := hp
  unfold bLen at hd
  split at hd
  · cases hd
    obtain ⟨v, rfl, h1⟩ := rd1 r1
    obtain ⟨a, ws, rfl, hs, al⟩ := h1.list
    refine sa_val fun Q k => ⟨_, _, rfl, .inl ⟨ws, hs, rfl⟩, ?_⟩
    rw [al.length]
    exact k _ H1 e1 (Fz.int _)
  · cases hd
    obtain ⟨v, rfl, h1⟩ := rd1 r1
    obtain ⟨a, ws, rfl, hs, al⟩ := h1.tuple
    refine sa_val fun Q k => ⟨_, _, rfl, .inr ⟨ws, hs, rfl⟩, ?_⟩
    rw [al.length]
    exact k _ H1 e1 (Fz.int _)
  · split at hd
    · cases hd
      obtain ⟨v, rfl, h1⟩ := rd1 r1
      cases h1.str
      exact sa_val fun Q k => ⟨_, _, rfl, ⟨by assumption, rfl⟩, k _ H1 e1 (Fz.int _)⟩
    · cases hd
  · cases hd
theorem so_hint {e : Expr} {p pos : Pos} {fs : DEnv → R (List PyData)} (hg : Gl X "int") (hm : X.mg "int" = none) (he : starEach [e] X.env = [(false, eval e X.env)]) (ha : SoP X TB W [e] fs) : SoE X TB W (.Call (.Name "int" p) [e] [] pos) (fun e => (fs e).bind fun xs e1 => lift1 ((bInt xs).map .val) e1) := by
  obtain ⟨t, pt, st⟩ := ha
  refine ⟨_, pe_callTy call_int1 hg hm boot_int pt (by decide) (by decide) he rfl, fun σ H env re => ?_⟩
  show SndAt X.K TB W σ H env (fun Q : VK => t σ H fun vs H1 => (∃ i : Int, vs = [V.int i] ∧ Q (V.int i) H1) ∨ ∃ k : Bool, vs = [V.bl k] ∧ Q (V.int (if k = true then 1 else 0)) H1) _ _
  refine sa_bind (st σ H env re) fun vs xs H1 env1 e1 r1 => ?_
  refine lift1_sa fun pv hp => ?_
  rw [Option.map_eq_some_iff] at hp
  obtain ⟨dv, hd, rfl⟩ := hp
  unfold bInt at hd
  split at hd
  · cases hd
    obtain ⟨v, rfl, h1⟩ := rd1 r1
    cases h1.int
    exact sa_val fun Q k => .inl ⟨_, rfl, k _ H1 e1 (Fz.int _)⟩
  · cases hd
    obtain ⟨v, rfl, h1⟩ := rd1 r1
    cases h1.bool
    exact sa_val fun Q k => .inr ⟨_, rfl, k _ H1 e1 (Fz.int _)⟩
  · cases hd
end
end Wd
/-! Wd 26: what _law_told does. -/
namespace Wd
open PySem L2 PyProof.Rows PySem.Spec L2H HotX
def toldN : List Str := ["call", "e", "kinds", "names", "k"]
def toldCls : List Str := ["NotAllowed", "TooLarge", "Missing", "BadForm", "Broken"]
def toldTxt : List Str := ["refused", "large", "missing", "form", "broken"]
def toldC : CX := { N := toldN, fns := [], blts := ["isinstance", "range", "int", "len"], glos := [], excs := [], hot := true }
def strE : List Str → Es
  | [] => .nil
  | s :: r => .cons (.str s) (strE r)
def toldElt : E := .idx (.lst (strE toldTxt)) (.var 4)
def toldTst : Ts := .cons (.tru (.idx (.var 2) (.var 4))) .nil
def toldRet : E := .tup (.cons (.idx (.lst (.cons (.str "odd") (.cons (.idx (.bin .add (.var 3) (.lst (.cons (.str "") .nil))) (.int 0)) .nil))) (.blt .int (.cons (.cmp .eq (.blt .len (.cons (.var 3) .nil)) (.int 1)) .nil))) .nil)
def isB (sc : Scope) : List Str → List Expr → Bool
  | [], es => es.isEmpty
  | c :: cs, es => match es with
    | .Call (.Name i _) [.Name x _, .Name y _] [] _ :: es => decide (i = "isinstance") && glB sc "isinstance" && decide (x = "e") && decide (y = c) && glB sc c && isB sc cs es
    | _ => false
def toldB (sc : Scope) (b : List Stmt) : Bool := match b with
  | [.Try [.Return (some (.Tuple [.Constant (.str w) _ _, .Call (.Name a _) [] [] _] _ _)) _] [.ExceptHandler (some (.Name we _)) (some en) [.Assign [.Name kn _] (.List es _) _, .Assign [.Name nn np] (.ListComp el [⟨.Name kk _, .Call (.Name rg _) [.Constant (.int i5) _ _] [] _, ifs, 0⟩] s5 pv) _, .Return (some rv) _] _] [] [] _] =>
    decide (w = "told") && decide (a = "call") && decide (we = "WayError") && decide (en = "e") && decide (kn = "kinds") && decide (nn = "names") && decide (kk = "k") && decide (rg = "range") && decide (i5 = 5) &&
    scopeB toldN ["call"] sc && lcB sc "e" && lcB sc "names" && lcB sc "call" && locB sc fT "kinds" && glB sc "WayError" && glB sc "range" && isB sc toldCls es && blkC toldN sc s5 [("k", 4)] && locB (relS s5 sc) (fun x => s5.names.lookup x == some .cell) "k" &&
    okE toldC (relS s5 sc) toldElt el && okTs toldC (relS s5 sc) toldTst ifs && swLc sc s5 "names" np pv && okE toldC sc toldRet rv
  | _ => false
/-- one of five -/
def hotB5 (j : Nat) : List PyData := (List.range 5).map fun i => .bool (decide (i = j))
/-- the suite's last two statements, on the kinds -/
def sufF (e : DEnv) : R Fl := ((lcF (.name 4) [4] (fun e => .ok (rangeD 0 5) e) (evTs ⟨fun _ _ => .bad, [], id⟩ toldTst) (ev ⟨fun _ _ => .bad, [], id⟩ toldElt) e).bind fun p e1 => match tak p e1 with
    | some (v, e2) => if 3 < e2.length then R.ok Fl.nx (e2.set 3 (some v)) else .bad
    | none => .bad).bind fun fl e1 => match fl with
    | .nx => ((ev ⟨fun _ _ => .bad, [], id⟩ toldRet e1).bind fun p e1 => match tak p e1 with
      | some (v, e2) => R.ok (Fl.ret v) e2
      | none => .bad).bind fun fl e1 => match fl with
        | .nx => .ok .nx e1
        | .ret v => .ok (.ret v) e1
        | .brk => .ok .brk e1
        | .ct => .ok .ct e1
    | .ret v => .ok (.ret v) e1
    | .brk => .ok .brk e1
    | .ct => .ok .ct e1
def retOf : R Fl → Option DV
  | .ok (.ret v) _ => some v
  | _ => none
theorem ret_of {r : R Fl} {v : DV} (h : retOf r = some v) : ∃ e, r = .ok (.ret v) e := by
  unfold retOf at h
  split at h
  · cases h
    exact ⟨_, rfl⟩
  · cases h
theorem suf_val (j : Nat) (hj : j < 5) : ∃ e, sufF [none, none, some (.own (hotB5 j)), none, none] = .ok (.ret (.d (.tuple [.str (toldTxt.getD j "")]))) e := by
  refine ret_of ?_
  match j, hj with
  | 0, _ => kernel_rfl
  | 1, _ => kernel_rfl
  | 2, _ => kernel_rfl
  | 3, _ => kernel_rfl
  | 4, _ => kernel_rfl
section
variable {X : Cx} {TB : TL} {a D : Addr} {oe : Obj} {pn : List (Addr × Obj)} {bk : Str → Bool}
/-- the five questions -/
theorem pa_is (hN : X.N = toldN) (he : X.env.scope.names.lookup ("e" : Str) = some .local) (C : ExcC X.K D) (hz : Zc (.ref D) none oe) (hf : ∃ vs, oe.data = .fields vs) (hm : X.mg "isinstance" = none) :
    ∀ (cs : List Str) (es : List Expr), (∀ c ∈ cs, c ≠ "__debug__" ∧ ∃ A, X.mg c = some (.ref A) ∧ PySem.W.kitOne X.K (.ref D) (.ref A) = some (bk c)) → isB X.env.scope cs es = true → PA (X.suite a ((a, oe) :: pn)) es (fun σ H Q => σ[1]? = some (some (V.ref a)) ∧ Q (cs.map fun c => V.bl (bk c)) H)
  | [], es, _, h => by
    unfold isB at h
    rw [List.isEmpty_iff] at h
    subst h
    exact ⟨fun pos pins s σ H Q I q => pa_nil.run pos pins s σ H Q I q.2⟩
  | c :: cs, es, hc, h => by
    unfold isB at h
    split at h
    · simp only [Bool.and_eq_true, decide_eq_true_eq] at h
      obtain ⟨⟨⟨⟨⟨rfl, h1⟩, rfl⟩, rfl⟩, h2⟩, h3⟩ := h
      rename_i p1 p2 y p3 p4 es2
      obtain ⟨nd, A, m1, m2⟩ := hc _ List.mem_cons_self
      have ih := pa_is hN he C hz hf hm cs _ (fun c q => hc c (List.mem_cons_of_mem _ q)) h3
      have pv : ∀ q : Pos, PE (X.suite a ((a, oe) :: pn)) (.Name "e" q) (tVar 1) := fun q => pe_var (by show X.N[1]? = _; rw [hN]; rfl) (.inl he) (by decide) (by decide)
      have pg : ∀ q : Pos, PE (X.suite a ((a, oe) :: pn)) (.Name y q) (tC (.ref A)) := fun q => pe_glob (gl1 h2) m1 rfl (beq_eq_false_iff_ne.mpr nd)
      have one : ∀ q1 q2 q3 q4 : Pos, PE (X.suite a ((a, oe) :: pn)) (.Call (.Name "isinstance" q1) [.Name "e" q2, .Name y q3] [] q4) (tCB (rIsE X.K D a) (tCons (tVar 1) (tCons (tC (.ref A)) tNil))) := fun q1 q2 q3 q4 =>
        pe_callB (call_isE C hz hf) (gl1 h1) hm PyProof.Rows.boot_isinstance (pa_cons (pv q2) (pa_cons (pg q3) pa_nil)) (by decide) (by decide) rfl rfl
      have all := pa_cons (one p1 p2 p3 p4) ih
      refine ⟨fun pos pins s σ H Q I q => all.run pos pins s σ H Q I ?_⟩
      obtain ⟨q1, q2⟩ := q
      refine ⟨_, q1, V.ref A, .ref A, bk _, rfl, fun u r => r, m2, q1, q2⟩
    · cases h
/-- what is known of an error's class: it is the j-th of five -/
structure ExK (K : PySem.W.Frag) (mg : Str → Option Value) (CS D : Addr) (j : Nat) : Prop where
  lt : j < 5
  exc : ExcC K D
  exm : PySem.W.exmOne K (.ref D) (.ref CS) = some true
  kit : ∀ c ∈ toldCls, ∃ A, mg c = some (.ref A) ∧ PySem.W.kitOne K (.ref D) (.ref A) = some (decide (toldCls[j]? = some c))
abbrev orc0 : Orc := ⟨fun _ _ => .bad, [], id⟩
def tSuite (K : PySem.W.Frag) (TB : TL) (P : Addr → Nat → Prop) (a : Addr) (cls : Value) (d : Option Addr) : TS := fun D σ H => ∃ C j, cls = .ref C ∧ d = none ∧ P C j ∧ (1 < σ.length → σ[1]? = some (some (V.ref a))) ∧ LamX.Tabs TB H ∧
  ∀ x H2, Ext (fun _ => False) H H2 → (∀ b, H2 b = none → H b = none) → LamX.Tabs TB H2 → RN K H H2 x (.d (.tuple [.str (toldTxt.getD j "")])) → D.rt x H2
theorem fz_bools {K : PySem.W.Frag} {H : Hp} : ∀ bs : List Bool, FzAll K H (bs.map V.bl) (bs.map PyData.bool)
  | [] => .nil
  | b :: r => .cons (.bl b) (fz_bools r)
theorem hot5 (j : Nat) (hj : j < 5) : (toldCls.map fun c => decide (toldCls[j]? = some c)) = (List.range 5).map fun i => decide (i = j) := by
  match j, hj with
  | 0, _ => decide +kernel
  | 1, _ => decide +kernel
  | 2, _ => decide +kernel
  | 3, _ => decide +kernel
  | 4, _ => decide +kernel
theorem suite_good (hN : X.N = toldN) (gd : X.A.guards = some []) (un : X.A.units + 65 < cLine) (hb : ∀ x ∈ toldC.blts, X.mg x = none) : Good toldC orc0 TB (fun _ => 0) (X.suite a ((a, oe) :: pn)) noW := by
  refine ⟨hN, ?_, fun h => (by cases h), gd, un, hb, ⟨0, fun i q h => (by simp [toldC] at h), fun z => (by cases z), fun i x n h => ?_⟩, fun k x h => ?_, takesN.imp fun c d σ H ⟨_, _, z⟩ => z⟩
  · show X.N.Nodup
    rw [hN]
    decide +kernel
  · simp [toldC] at h
  · simp [toldC] at h
/-- the suite: one of five texts -/
theorem suite_ps {P : Addr → Nat → Prop} {es ifs : List Expr} {el rv : Expr} {s5 : Scope} {cls : Value} {d : Option Addr} {p1 p2 p3 p4 p5 p6 p7 p8 p9 pv np : Pos} {jj : Nat} {CS : Addr}
    (hP : ∀ C j, P C j → ExK X.K X.mg CS C j) (hN : X.N = toldN) (hfn : ∀ x, X.fn x = true) (hkd : X.env.scope.kind = .function) (gd : X.A.guards = some []) (un : X.A.units + 65 < cLine) (hb : ∀ x ∈ toldC.blts, X.mg x = none)
    (c1 : lcB X.env.scope "e" = true) (c2 : locB X.env.scope fT "kinds" = true) (c3 : lcB X.env.scope "names" = true) (c4 : isB X.env.scope toldCls es = true) (c5 : blkC toldN X.env.scope s5 [("k", 4)] = true) (c6 : locB (relS s5 X.env.scope) (fun x => s5.names.lookup x == some .cell) "k" = true)
    (c7 : okE toldC (relS s5 X.env.scope) toldElt el = true) (c8 : okTs toldC (relS s5 X.env.scope) toldTst ifs = true) (c9 : swLc X.env.scope s5 "names" np pv = true) (c10 : okE toldC X.env.scope toldRet rv = true) (c11 : glB X.env.scope "range" = true)
    (hz : L2N.Zn cls d oe) (hf : ∃ vs, oe.data = .fields vs) :
    PSs (X.suite a ((a, oe) :: pn)) [.Assign [.Name "kinds" p1] (.List es p2) p3, .Assign [.Name "names" np] (.ListComp el [⟨.Name "k" p4, .Call (.Name "range" p5) [.Constant (.int 5) jj p6] [] p7, ifs, 0⟩] s5 pv) p8, .Return (some rv) p9] (tSuite X.K TB P a cls d) := by
  refine ⟨fun pins s σ H De I h => ?_⟩
  obtain ⟨C, j, rfl, rfl, hp, h1, tb, k⟩ := h
  have hl : σ.length = 5 := by rw [I.len]; show X.N.length = 5; rw [hN]; rfl
  have h1 := h1 (by omega)
  have ex := hP C j hp
  have nd : X.N.Nodup := by
    rw [hN]
    decide +kernel
  have G := suite_good (TB := TB) (a := a) (oe := oe) (pn := pn) hN gd un hb
  have hot : HotC (X.suite a ((a, oe) :: pn)) := by
    obtain ⟨vs, hv⟩ := hf
    exact ⟨(a, oe), ⟨rfl, vs, hv, hz.2.2 vs hv⟩, List.mem_cons_self⟩
  have pa := pa_is (a := a) (oe := oe) (pn := pn) (bk := fun c => decide (toldCls[j]? = some c)) hN (of_decide_eq_true c1) ex.exc hz.zc hf (hb _ (by simp [toldC])) toldCls es (fun c hc => ⟨by
    intro e
    rw [e] at hc
    revert hc
    decide +kernel, ex.kit c hc⟩) c4
  obtain ⟨l1, l2⟩ := loc1 c2
  have ps1 : PS (X.suite a ((a, oe) :: pn)) (.Assign [.Name "kinds" p1] (.List es p2) p3) _ := ps_set (i := 2) nd (by show X.N[2]? = _; rw [hN]; rfl) l1 (pe_lst pa) rfl (.inl (hfn _))
  have s2 : SoS (X.suite a ((a, oe) :: pn)) TB noW H none (.Assign [.Name "names" np] (.ListComp el [⟨.Name "k" p4, .Call (.Name "range" p5) [.Constant (.int 5) jj p6] [] p7, ifs, 0⟩] s5 pv) p8) _ :=
    so_sethot (j := 3) (g := .name 4) (fi := fun e => .ok (rangeD 0 5) e) (ft := evTs orc0 toldTst) (fe := ev orc0 toldElt) hot nd (by show X.N[3]? = _; rw [hN]; rfl) (of_decide_eq_true c3) (by rw [swLc_eq hkd]; exact congrArg pure c9) (.inr rfl)
      ⟨blkOk_by (by show blkC X.N _ _ _ = true; rw [hN]; exact c5), by simp [tgs], ⟨_, piw_range (gl1 c11) (hb _ (by simp [toldC])) (by decide) (by decide), fun σ H env re => sa_val fun R q => q _ H (EP1.refl re) (itd_range 0 5)⟩,
        fun s H Ca l fp => so_gname nd (by show X.N[4]? = _; rw [hN]; rfl) (loc1 c6).1 ((loc1 c6).2),
        fun s H Ca l fp => c_of toldTst (G.blk s H _ (compEnvC _ l Ca X.env) fp) c8, fun s H Ca l fp => e_of toldElt (G.blk s H _ (compEnvC _ l Ca X.env) fp) c7, fun x => rfl⟩
  have s3 := so_ret (H0 := H) (M := none) (pos := p9) (e_of toldRet G c10)
  obtain ⟨t23, p23, sn⟩ := so_bcons s2 (so_bcons s3 so_bnil)
  refine (pss_cons ps1 p23).run pins s σ H De I ?_
  refine ⟨h1, ?_, fun p np => ?_⟩
  · rw [List.length_map]
    exact (by decide : (5 : Nat) ≤ sizeLine)
  have hs2 : (2 : Nat) < σ.length := by omega
  have hi : (σ.set 2 (some (V.ref p)))[2]? = some (some (V.ref p)) := List.getElem?_set_self hs2
  have only : ∀ (i : Nat) (v : DV), ([none, none, some (DV.own (hotB5 j)), none, none] : DEnv)[i]? = some (some v) → i = 2 ∧ v = DV.own (hotB5 j) := by
    intro i v q
    match i, q with
    | 0, q => cases q
    | 1, q => cases q
    | 2, q => cases q; exact ⟨rfl, rfl⟩
    | 3, q => cases q
    | 4, q => cases q
    | i + 5, q => simp at q
  have fz : FzAll X.K (upd H p (.lst (toldCls.map fun c => V.bl (decide (toldCls[j]? = some c))))) (toldCls.map fun c => V.bl (decide (toldCls[j]? = some c))) (hotB5 j) := by
    have e := hot5 j ex.lt
    have z := fz_bools (K := X.K) (H := upd H p (.lst (toldCls.map fun c => V.bl (decide (toldCls[j]? = some c))))) (toldCls.map fun c => decide (toldCls[j]? = some c))
    have e1 : (toldCls.map fun c => decide (toldCls[j]? = some c)).map V.bl = toldCls.map fun c => V.bl (decide (toldCls[j]? = some c)) := by simp
    have e2 : (toldCls.map fun c => decide (toldCls[j]? = some c)).map PyData.bool = hotB5 j := by
      rw [e]
      simp [hotB5]
    rw [e1, e2] at z
    exact z
  have si : SI X.K TB H none (σ.set 2 (some (V.ref p))) (upd H p (.lst (toldCls.map fun c => V.bl (decide (toldCls[j]? = some c))))) [none, none, some (DV.own (hotB5 j)), none, none] := by
    refine ⟨⟨by rw [List.length_set, hl]; rfl, fun i v q => ?_, fun i i2 xs ys b q1 q2 _ _ => ?_, tabs_upd tb (.inl np)⟩, ?_, fun b q => ?_, fun b q => ?_, fun b q => (by cases q)⟩
    · obtain ⟨rfl, rfl⟩ := only i v q
      exact ⟨V.ref p, hi, p, _, rfl, upd_same, fz⟩
    · rw [(only i _ q1).1, (only i2 _ q2).1]
    · exact Ext.of fun b o q => by rw [upd_ne (fun z => by rw [z, np] at q; cases q)]; exact q
    · by_cases z : b = p
      · rw [z]
        exact np
      · rw [upd_ne z] at q
        exact q
    · obtain ⟨i, xs, q1, q2⟩ := q
      obtain ⟨rfl, _⟩ := only i _ q1
      rw [hi] at q2
      cases q2
      exact .inl np
  refine sn _ _ _ _ si ?_
  obtain ⟨e, he⟩ := suf_val j ex.lt
  have fin : KS X.K TB noW H none (upd H p (.lst (toldCls.map fun c => V.bl (decide (toldCls[j]? = some c))))) De (.ok (.ret (.d (.tuple [.str (toldTxt.getD j "")]))) e) := by
    intro x σ' H' i' r
    exact k x H' (i'.ext.mono fun c z => by cases z) i'.gone i'.rep.tabs r
  rw [← he] at fin
  exact fin
end
end Wd
/-! Wd 27: _law_told called with a lambda. -/
namespace Wd
open PySem L2 PyProof.Rows PySem.Spec L2H HotX
/-- what is known of _law_told's classes and names -/
structure TK (K : PySem.W.Frag) (mg : Str → Option Value) (CS : Addr) : Prop where
  we : mg "WayError" = some (.ref CS)
  blt : ∀ x ∈ toldC.blts, mg x = none
/-- what the def makes of the lambda's reading -/
def TTG (K : PySem.W.Frag) (mg : Str → Option Value) (TB : TL) (CS : Addr) (tl : XK → Hp → VK → Prop) (H : Hp) (Q : VK) : Prop :=
  tl (fun cls d H1 => ∃ C j, cls = .ref C ∧ d = none ∧ ExK K mg CS C j ∧ LamX.Tabs TB H1 ∧ ∀ x H2, Ext (fun _ => False) H1 H2 → (∀ b, H2 b = none → H1 b = none) → LamX.Tabs TB H2 → RN K H1 H2 x (.d (.tuple [.str (toldTxt.getD j "")])) → Q x H2) H
    (fun x H1 => ([V.str "told", x]).length ≤ sizeLine ∧ ∀ p, H1 p = none → Q (.ref p) (upd H1 p (.tup [.str "told", x])))
theorem told_gives {X : Cx} {TB : TL} {CS g f c' : Addr} {cdg : Value} {x q : Str} {sg : Scope} {b : List Stmt} {s : Shared} {H : Hp} {Q : VK} {tl : XK → Hp → VK → Prop} (T : TK X.K X.mg CS) (hb : toldB sg b = true) (gd : X.A.guards = some [])
    (hr : Room 0 (X.A.deeper (envOfC x sg s.heap.objs.size g cdg)))
    (act : ∀ (W : WX) (pn : List (Addr × Obj)) (xe : Value → Shared → Prop) (E : XK) (p1 p2 : Pos), L2N.Takes ((cxOf (L2N.CX X.prog X.w) X.prog X.w X.K X.mg X.base toldN x sg g cdg X.A X.stack s H (fun _ _ _ => False)).tr pn xe) W → (∀ cls d σ' H', E cls d H' → W cls d σ' H') →
      PE ((cxOf (L2N.CX X.prog X.w) X.prog X.w X.K X.mg X.base toldN x sg g cdg X.A X.stack s H (fun _ _ _ => False)).tr pn xe) (.Call (.Name "call" p1) [] [] p2) (fun σZ HZ Q => σZ[0]? = some (some (V.ref f)) ∧ HZ c' = some (LamX.CodeO c' q) ∧ tl E HZ Q))
    (hc : H c' = some (LamX.CodeO c' q)) (h : TTG X.K X.mg TB CS tl H Q) :
    ∃ t, PSs (cxOf (L2N.CX X.prog X.w) X.prog X.w X.K X.mg X.base toldN x sg g cdg X.A X.stack s H (fun _ _ _ => False)) b t ∧ t { nx := fun _ H' => Q .non H', rt := Q } (L2.start toldN [V.ref f]) H := by
  unfold toldB at hb
  split at hb
  case h_2 => cases hb
  simp only [Bool.and_eq_true, decide_eq_true_eq] at hb
  obtain ⟨⟨⟨⟨⟨⟨⟨⟨⟨⟨⟨⟨⟨⟨⟨⟨⟨⟨⟨⟨⟨⟨rfl, rfl⟩, rfl⟩, rfl⟩, rfl⟩, rfl⟩, rfl⟩, rfl⟩, rfl⟩, b1⟩, b2⟩, b3⟩, b4⟩, b5⟩, b6⟩, b7⟩, b8⟩, b9⟩, b10⟩, b11⟩, b12⟩, b13⟩, b14⟩ := hb
  have S := scope_ok b1
  have un : (X.A.deeper (envOfC x sg s.heap.objs.size g cdg)).units + 65 < cLine := by
    have := hr.un
    exact Nat.lt_of_le_of_lt (Nat.add_le_add_left (by omega : 65 ≤ 16 * 0 + 200) _) (by rw [← Nat.add_assoc]; exact this)
  refine ⟨_, pss_one (L2N.ps_try_as (X := cxOf (L2N.CX X.prog X.w) X.prog X.w X.K X.mg X.base toldN x sg g cdg X.A X.stack s H (fun _ _ _ => False)) (c := .ref CS) (i := 1) (Wout := fun _ _ _ _ => False)
      (ts := tSuite X.K TB (fun C j => ExK X.K X.mg CS C j))
      (tb := fun W D σ H => ∃ Ech : XK, (∀ cls d σ' H', Ech cls d H' → W cls d σ' H') ∧ σ[0]? = some (some (V.ref f)) ∧ H c' = some (LamX.CodeO c' q) ∧ tl Ech H (fun x H1 => ([V.str "told", x]).length ≤ sizeLine ∧ ∀ p, H1 p = none → D.rt (.ref p) (upd H1 p (.tup [.str "told", x]))))
      rfl rfl S.nd rfl (of_decide_eq_true b2) ⟨gl1 b6, by decide, .inl T.we⟩ takesN (fun W pn xe tk _ => ?_) (fun a oe cls d pn hz hf => ?_)), ?_⟩
  · refine ⟨fun pins s' σ H' D I h' => ?_⟩
    obtain ⟨Ech, hW, h1, h2, h3⟩ := h'
    exact (pss_one (ps_ret (pe_tup (pa_cons pe_str (pa_cons (act W pn xe Ech _ _ tk hW) pa_nil))))).run pins s' σ H' D I ⟨h1, h2, h3⟩
  · exact suite_ps (X := cxOf (L2N.CX X.prog X.w) X.prog X.w X.K X.mg X.base toldN x sg g cdg X.A X.stack s H (fun _ _ _ => False)) (fun C j z => z) rfl (fun _ => rfl) S.kind gd un T.blt b2 b5 b3 b8 b9 b10 b11 b12 b13 b14 b7 hz hf
  · refine ⟨_, fun cls d σ' H' he => ?_, rfl, hc, h⟩
    obtain ⟨C, j, rfl, rfl, ex, tb, k⟩ := he
    exact ⟨true, ex.exm, fun _ a ha => ⟨C, j, rfl, rfl, ex, fun hl => List.getElem?_set_self (by rw [List.length_set] at hl; exact hl), tb, k⟩, fun z => by cases z⟩
end Wd
/-! Wd 28: _law_told(lambda: ..) as an expression. -/
namespace Wd
open PySem L2 PyProof.Rows PySem.Spec L2H HotX
section
variable {X : Cx} {TB : TL} {W : WEx}
/-- the reading of _law_told(lambda: body) -/
def tTold (K : PySem.W.Frag) (mg : Str → Option Value) (TB : TL) (CS : Addr) (tb : XK → TE) : TE := fun σ H Q => LamX.Tabs TB H ∧ ∀ H1, LamX.ExtN H H1 → (∀ b, H1 b = none → H b = none) → LamX.Tabs TB H1 → TTG K mg TB CS (fun E H' Q' => tb E σ H' Q') H1 Q
theorem pe_told {CS g c P : Addr} {fd : FuncData} {st : Stmt} {k : Nat} {pr : Arguments} {bd : Expr} {sc : Scope} {tb : XK → TE} {p lpos pos : Pos} (T : TK X.K X.mg CS) (hg : Gl X "_law_told") (hm : X.mg "_law_told" = some (.ref g)) (F : FunD X.K "_law_told" "_law_told" (defArgs st) (defBody st) (defScope st) [] [] g fd)
    (hB : toldB (defScope st) (defBody st) = true) (hps : plainPs ["call"] (defArgs st) = true) (gd : X.A.guards = some []) (tab : LamX.TabB X.base X.mg c P) (hcode : X.env.code = .ref c) (hmT : (P, X.env.qual ++ "<lambda>") ∈ TB) (hu : ∀ p ∈ TB, p.1 = P → p.2 = X.env.qual ++ "<lambda>")
    (hr : Room (k + 2) X.A) (hp : parB pr = true) (L : LamP X.N X.env.scope pr sc)
    (hbody : ∀ (A : Around) (outer : List Env) (s : Shared) (H : Hp) (E : XK) (f c' : Addr), A.guards = some [] → Room k (A.deeper (LamX.lamEnv X sc s.heap.objs.size f c')) → PE (lamC X A outer s H E sc f c') bd (tb E)) :
    PE X (.Call (.Name "_law_told" p) [.Lambda pr bd sc lpos] [] pos) (tTold X.K X.mg TB CS tb) := by
  have b1 : scopeB toldN ["call"] (defScope st) = true := by
    have z := hB
    unfold toldB at z
    split at z
    · simp only [Bool.and_eq_true] at z
      exact z.1.1.1.1.1.1.1.1.1.1.1.1.1.2
    · cases z
  have S := scope_ok b1
  have vis : Vis (defScope st) "call" := by
    rcases S.par "call" List.mem_cons_self with z | z
    · exact .inl z
    · exact .inr (.inl z)
  have hb : Binds X.K fd ["call"] [] := F.bindsN fun _ _ _ _ _ _ us hl => bind_plain hps (by simp) hl
  obtain ⟨oc, od, dV, kV, doc, pm0, an, cdv, ct0, osl, rfl, lk, hcg, _, _⟩ := F.ex
  refine ⟨fun pins s σ H Q I h => ?_⟩
  obtain ⟨hT, h⟩ := h
  refine wpAny_Call_Name_kw (ld_glob I hg hm ?_ (by decide))
  refine PySem.W.callWith_K (h₀ := X.base) I.ok.mod.kin F.kp ?_ (by rfl) (by rfl)
  show wpAny _ _ (spliced ((false, eval (.Lambda pr bd sc lpos) X.env) :: backTo pos (starEach [] X.env))) _ _ s
  refine Calls.spliced_cons (lam_made I tab hcode hmT hu hT hp (L.has I.ok) fun f c' dv pm ct H1 s1 I1 eN g1 T1 hf hfn hfr hco hdv => ?_)
  refine Calls.spliced_nil ⟨I1.kIn, ?_⟩
  have run : codeAny (model X.prog X.w) X.A (.call (.ref g) ⟨[.ref f], []⟩) (CR (L2N.CX X.prog X.w) X.stack X.prog X.w H1 s1 Q (fun _ _ _ => False)) s1 := by
    refine LamX.run_ofS (N := toldN) (ps := ["call"]) (us := [.ref f]) (vs := [.ref f]) lk hcg S hr I1.env0 (hb s1 [.ref f] I1.kIn rfl) (.cons rfl .nil) rfl fun hr' => ?_
    refine told_gives (f := f) (c' := c') (q := X.env.qual ++ "<lambda>") (tl := fun E H' Q' => tb E σ H' Q') T hB gd (hr'.mono (Nat.zero_le _)) (fun W pn xe E p1 p2 tk hW => ?_) hco (h H1 eN g1 T1)
    exact lam_act (i := 0) I1 L hp hf hfn hfr hdv tk hW hr' gd (fun A outer s H gA hr2 => hbody A outer s H E f c' gA hr2) rfl vis (by decide) (by decide)
  refine wpAny_call (codeAny_mono run fun r s2 hq => ?_)
  cases r with
  | error e =>
    obtain ⟨_, _, _, _, _, _, _, _, _, _, _, _, z⟩ := hq
    exact z.elim
  | ok fl =>
    cases fl with
    | ret u => exact I1.after hq
    | next => exact hq.elim
    | brk => exact hq.elim
    | cont => exact hq.elim
abbrev toldF (nm : List Str) (fe : DEnv → R PV) (e : DEnv) : R PV := toldR nm e (fe (sealD e))
theorem seal_get {e : DEnv} {i : Nat} {v : DV} (h : (sealD e)[i]? = some (some v)) : ∃ x, v = .d x ∧ e[i]? = some (some (.d x)) := by
  unfold sealD at h
  rw [List.getElem?_map, Option.map_eq_some_iff] at h
  obtain ⟨w, h1, h2⟩ := h
  cases w with
  | none => cases h2
  | some w =>
    cases w with
    | d x =>
      cases h2
      exact ⟨x, rfl, h1⟩
    | own xs => cases h2
theorem seal_own {e : DEnv} {σ : L2.St} {b : Addr} (h : OwnA (sealD e) σ b) : False := by
  obtain ⟨i, xs, h1, _⟩ := h
  obtain ⟨x, h2, _⟩ := seal_get h1
  cases h2
theorem seal_rep {K : PySem.W.Frag} {H H1 : Hp} {σ : L2.St} {e : DEnv} (r : RepE K TB H σ e) (st : Stay H H1) (t : LamX.Tabs TB H1) : RepE K TB H1 σ (sealD e) := by
  refine ⟨by unfold sealD; rw [List.length_map]; exact r.len, fun i v q => ?_, fun i j xs ys a q1 q2 _ _ => ?_, t⟩
  · obtain ⟨x, rfl, q1⟩ := seal_get q
    obtain ⟨y, hy, rv⟩ := r.at_ i _ q1
    exact ⟨y, hy, Fz.stay st rv⟩
  · obtain ⟨x, h, _⟩ := seal_get q1
    cases h
theorem extN_stay {H H1 : Hp} (e : LamX.ExtN H H1) : Stay H H1 := ⟨fun b xs q => e b _ q fun _ z => (by cases z), fun b o u q => e b _ q fun _ z => (by cases z)⟩
theorem so_told {cr : Nat → Addr} {nm : List Str} {fe : DEnv → R PV} {CS g c P : Addr} {fd : FuncData} {st : Stmt} {k : Nat} {pr : Arguments} {bd : Expr} {sc : Scope} {p lpos pos : Pos} (T : TK X.K X.mg CS) (hg : Gl X "_law_told") (hm : X.mg "_law_told" = some (.ref g)) (F : FunD X.K "_law_told" "_law_told" (defArgs st) (defBody st) (defScope st) [] [] g fd)
    (hB : toldB (defScope st) (defBody st) = true) (hps : plainPs ["call"] (defArgs st) = true) (gd : X.A.guards = some []) (tab : LamX.TabB X.base X.mg c P) (hcode : X.env.code = .ref c) (hmT : (P, X.env.qual ++ "<lambda>") ∈ TB) (hu : ∀ p ∈ TB, p.1 = P → p.2 = X.env.qual ++ "<lambda>")
    (hr : Room (k + 2) X.A) (hp : parB pr = true) (L : LamP X.N X.env.scope pr sc) (hnm : ∀ i t, nm[i]? = some t → ∃ j, ExK X.K X.mg CS (cr i) j ∧ toldTxt.getD j "" = t)
    (hbody : ∀ (A : Around) (outer : List Env) (s : Shared) (H : Hp) (E : XK) (f c' : Addr), A.guards = some [] → Room k (A.deeper (LamX.lamEnv X sc s.heap.objs.size f c')) → SoE (lamC X A outer s H E sc f c') TB (fun i d H => E (.ref (cr i)) d H) bd fe) :
    SoE X TB W (.Call (.Name "_law_told" p) [.Lambda pr bd sc lpos] [] pos) (toldF nm fe) := by
  refine ⟨_, pe_told T hg hm F hB hps gd tab hcode hmT hu hr hp L (tb := fun E => tGF (can X.K TB (fun i d H => E (.ref (cr i)) d H) fe (RE X.K))) fun A outer s H E f c' gA hr2 => pe_gf (hbody A outer s H E f c' gA hr2).can, fun σ H env re => ?_⟩
  unfold toldF toldR
  have two : ∀ x : V, ([V.str "told", x]).length ≤ sizeLine := fun x => (by decide : (2 : Nat) ≤ sizeLine)
  cases hf : fe (sealD env) with
  | bad => exact sa_bad
  | ok pv env1 =>
    dsimp only
    cases hz : frz pv env1 with
    | none => exact sa_bad
    | some w =>
      obtain ⟨y, env2⟩ := w
      dsimp only
      refine sa_val fun Q kk => ⟨re.tabs, fun H1 eN g1 T1 => ?_⟩
      have r1 := seal_rep re (extN_stay eN) T1
      refine ⟨sealD env, r1, .inl ⟨pv, env1, hf, fun x H2 e2 rl => frz_gf e2 rl hz fun H3 e3 _ fz => ⟨two x, fun q nq => ?_⟩⟩⟩
      have x3 : Ext (fun _ => False) H H3 := Ext.trans (fun b o q _ n => eN b o q n) e3.ext fun _ _ _ z => (seal_own z).elim
      have e4 := (EP1.refl re).call x3 (fun b q => g1 b (e3.gone b q)) e3.rep.tabs
      refine kk _ _ (e4.1.new nq) (.tup (.inl (.inl upd_same)) (.cons (.str _) (.cons (Fz.stay (stay_new nq) fz) .nil)))
  | exc i =>
    dsimp only
    cases ht : nm[i]? with
    | none => exact sa_bad
    | some t =>
      obtain ⟨j, ex, et⟩ := hnm i t ht
      refine sa_val fun Q kk => ⟨re.tabs, fun H1 eN g1 T1 => ?_⟩
      have r1 := seal_rep re (extN_stay eN) T1
      refine ⟨sealD env, r1, .inr ⟨i, hf, fun H2 x2 g2 t2 => ⟨cr i, j, rfl, rfl, ex, t2, fun x H3 x3 g3 t3 rn => ?_⟩⟩⟩
      have xa : Ext (fun _ => False) H H2 := Ext.trans (fun b o q _ n => eN b o q n) x2 fun _ _ _ z => (seal_own z).elim
      have x4 : Ext (fun _ => False) H H3 := xa.trans x3 fun _ _ _ z => z.elim
      have e4 := (EP1.refl re).call x4 (fun b q => g1 b (g2 b (g3 b q))) t3
      rw [et] at rn
      exact kk x H3 e4.1 rn
end
end Wd
/-! Wd 29: the facts that _law_told asks, read off the heap. -/
namespace Wd
open PySem L2 PyProof.Rows PySem.Spec L2H HotX
def oB {α : Type} [DecidableEq α] (a b : α) : Bool := decide (a = b)
/-- an error's class, asked by isinstance -/
def excB (K : PySem.W.Frag) (D : Addr) : Bool :=
  oB (PySem.W.findIn K (.ref D) "__getattribute__") (some (some (.builtin "BaseException.__getattribute__"))) && oB (PySem.W.findIn K (.ref D) "__getattr__") (some none) && oB (PySem.W.subIn K (.ref D) (.type "BaseException")) (some true) && PySem.W.hasDictIn K D &&
  oB (PySem.W.findIn K (.ref D) "__class__") (some (some (.builtin "object.__class__"))) && oB (PySem.W.specialIn K (.builtin "object.__class__") "__get__") (some (some (.builtin "getset_descriptor.__get__"))) && oB (PySem.W.takesIn K (.builtin "object.__class__")) (some true) && oB (PySem.W.mroIn K D (.type "object")) (some true)
theorem excB_ok {K : PySem.W.Frag} {D : Addr} (h : excB K D = true) : ExcC K D := by
  simp only [excB, oB, Bool.and_eq_true, decide_eq_true_eq] at h
  obtain ⟨⟨⟨⟨⟨⟨⟨h1, h2⟩, h3⟩, h4⟩, h5⟩, h6⟩, h7⟩, h8⟩ := h
  exact ⟨h1, h2, h3, h4, h5, h6, h7, h8⟩
def exkB (K : PySem.W.Frag) (D : Addr) (j : Nat) : Bool := decide (j < 5) && excB K D && oB (PySem.W.exmOne K (.ref D) (.ref (He.ga K "WayError"))) (some true) && toldCls.all fun c => oB (PySem.W.kitOne K (.ref D) (.ref (He.ga K c))) (some (decide (toldCls[j]? = some c)))
theorem exkB_ok {K : PySem.W.Frag} {mg : Str → Option Value} {D : Addr} {j : Nat} (hm : ∀ c ∈ toldCls, mg c = some (.ref (He.ga K c))) (h : exkB K D j = true) : ExK K mg (He.ga K "WayError") D j := by
  simp only [exkB, oB, Bool.and_eq_true, decide_eq_true_eq, List.all_eq_true] at h
  obtain ⟨⟨⟨h1, h2⟩, h3⟩, h4⟩ := h
  exact ⟨h1, excB_ok h2, h3, fun c hc => ⟨_, hm c hc, h4 c hc⟩⟩
/-- which of the five a class is -/
def clsIx (x : Str) : Nat := toldCls.idxOf x
def txtOf (x : Str) : Str := toldTxt.getD (clsIx x) ""
theorem told_at {X : Cx} {TB : TL} {W : WEx} {C : CX} {cr : Nat → Addr} {CS g c P : Addr} {fd : FuncData} {st : Stmt} {k : Nat} (T : TK X.K X.mg CS) (hm : X.mg "_law_told" = some (.ref g)) (F : FunD X.K "_law_told" "_law_told" (defArgs st) (defBody st) (defScope st) [] [] g fd)
    (hB : toldB (defScope st) (defBody st) = true) (hps : plainPs ["call"] (defArgs st) = true) (gd : X.A.guards = some []) (tab : LamX.TabB X.base X.mg c P) (hcode : X.env.code = .ref c) (hmT : (P, X.env.qual ++ "<lambda>") ∈ TB) (hu : ∀ p ∈ TB, p.1 = P → p.2 = X.env.qual ++ "<lambda>")
    (hr : Room (k + 2) X.A) (hnm : ∀ i t, C.tnm[i]? = some t → ∃ j, ExK X.K X.mg CS (cr i) j ∧ toldTxt.getD j "" = t) : ToldAt C TB cr X W k := by
  intro pr bd sc p lp pos fe hg hp hl hs
  refine so_told (k := k) (cr := cr) T (gl1 hg) hm F hB hps gd tab hcode hmT hu hr hp (lamP_ok hl) hnm fun A outer s H E f c' gA hr2 => ?_
  exact hs (lamC X A outer s H E sc f c') _ ⟨rfl, rfl, rfl, rfl, rfl, rfl, rfl, rfl, gA, hr2⟩ ((L2N.takes_of rfl rfl rfl rfl).imp fun c dd σ H ⟨k, e1, e2⟩ => by rw [e1]; exact e2)
end Wd
/-! Wd 30: from the head to a law that asks _law_told. -/
namespace Wd
open PySem L2 PyProof.Rows PySem.Spec L2H HotX
def Mo.tf (m : Mo) : List He.Defn := m.lam.map fun x => (x, none)
def toldDD (st : Stmt) : He.DefD := ⟨("_law_told", none), "_law_told", "_law_told", defArgs st, defBody st, defScope st, [], []⟩
def Mo.ddsT (m : Mo) (st : Stmt) : List He.DefD := toldDD st :: m.dds
def Mo.faT (m : Mo) : List He.Fa := m.fa ++ (.glo "_law_told" :: .glo "WayError" :: (toldC.blts.map .free ++ toldCls.map .glo))
/-- the tables of code objects, and the names of the lambdas -/
def Mo.tabs (m : Mo) (K : PySem.W.Frag) : TL := m.lam.map fun x => ((He.cT K (x, none)).2, x ++ ".<locals>." ++ "<lambda>")
def nodB : List Addr → Bool
  | [] => true
  | a :: r => (r.all fun b => decide (a ≠ b)) && nodB r
def Mo.exT (m : Mo) (K : PySem.W.Frag) : Bool := m.ex K && nodB (m.lam.map fun x => (He.cT K (x, none)).2) && m.excs.all fun x => exkB K (He.ga K x) (clsIx x)
theorem nodB_ok : ∀ {xs : List Str} {f : Str → Addr}, nodB (xs.map f) = true → ∀ x ∈ xs, ∀ y ∈ xs, f x = f y → x = y
  | [], f, _, x, hx, _, _, _ => by cases hx
  | z :: zs, f, h, x, hx, y, hy, e => by
    simp only [List.map_cons, nodB, Bool.and_eq_true, List.all_eq_true, decide_eq_true_eq] at h
    rcases List.mem_cons.mp hx with e1 | hx
    · rcases List.mem_cons.mp hy with e2 | hy
      · rw [e1, e2]
      · rw [e1] at e
        exact absurd e (h.1 _ (List.mem_map.mpr ⟨y, hy, rfl⟩))
    · rcases List.mem_cons.mp hy with e2 | hy
      · rw [e2] at e
        exact absurd e.symm (h.1 _ (List.mem_map.mpr ⟨x, hx, rfl⟩))
      · exact nodB_ok h.2 x hx y hy e
end Wd
/-! Wd 31: the walk of a law that asks _law_told. -/
namespace Wd
open PySem L2 PyProof.Rows PySem.Spec L2H HotX
/-- what is checked of the law's lists and of _law_told's text -/
def Mo.okT (m : Mo) (st : Stmt) : Bool := decide (m.tnm = m.excs.map txtOf) && m.fs.all (fun d => !decide (d.gn ∈ m.lam) || decide (d.gn = d.fi.name)) && toldB (defScope st) (defBody st) && plainPs ["call"] (defArgs st)
theorem law_walkT {l : PySem.W.OpenLaw} {n i nn : Nat} {q : Program} {loose : List Str} {XP : (Str → Option Value) → Heap → Prop} {d : DefRec} {m : Mo} {dl : Df} {st : Stmt}
    (hto : m.okT st = true) (hn : l.most = some 63) (hdf : d.params.defaults = []) (hr : Room (3 * n) callerA) (ok : m.ok = true) (hi : m.fs[i]? = some dl) (hd : d.name = dl.gn) (hp : dl.fi.ps.length = 1) (A : Answers m n i) :
    PySem.W.WalkO q loose XP (He.hookX nn m.faT (m.ddsT st) [] m.tf m.exT).says l.row.toRowW d [] (fun f vs => PySem.call f vs) := by
  refine Att.attach_callB hn hdf fun w s₀ s₁ mg mb fa o pm cd doc a vs ns G Y ho hod hcd hmg hobj hints hlen hbits hg => ?_
  obtain ⟨K, KX, c⟩ := Y
  simp only [Mo.okT, Bool.and_eq_true, decide_eq_true_eq] at hto
  obtain ⟨⟨⟨t1, t2⟩, t3⟩, t4⟩ := hto
  have cm := c.more
  simp only [Mo.exT, Bool.and_eq_true] at cm
  obtain ⟨⟨cx, cn⟩, ce⟩ := cm
  have fact : ∀ f ∈ m.faT, f.ok K = true := fun f hf => He.SaysD.facts c.t.d hf
  have fact1 : ∀ f ∈ m.fa, f.ok K = true := fun f hf => fact f (List.mem_append_left _ hf)
  have fact2 : ∀ f ∈ (.glo "_law_told" :: .glo "WayError" :: (toldC.blts.map .free ++ toldCls.map .glo) : List He.Fa), f.ok K = true := fun f hf => fact f (List.mem_append_right _ hf)
  have gl : ∀ x, (He.Fa.glo x).ok K = true → mg x = some (.ref (He.ga K x)) := fun x h => He.glo_ok KX G.T.g h
  have kn : Know K mg m (m.cr K) := by
    refine ⟨fun i d hi => ?_, fun x hx => ?_, fun k x d hk => ?_, fun k x hk => ?_⟩
    · have hd : d ∈ m.fs := List.mem_of_getElem? hi
      obtain ⟨fd, F⟩ := He.SaysD.defs c.t.d (d := d.dd) (List.mem_cons_of_mem _ (List.mem_map.mpr ⟨d, hd, rfl⟩))
      exact ⟨_, fd, F, gl d.gn (fact1 (.glo d.gn) (List.mem_append_left _ (List.mem_map.mpr ⟨d, hd, rfl⟩)))⟩
    · exact He.free_ok KX G.T.g (fact1 (.free x) (List.mem_append_right _ (List.mem_append_left _ (List.mem_map.mpr ⟨x, hx, rfl⟩))))
    · have e := List.all_eq_true.mp cx (x, d) (List.mem_of_getElem? hk)
      dsimp only at e
      split at e
      · rename_i u q
        obtain ⟨v, h1, h2⟩ := dB_ok _ _ _ e
        exact ⟨v, u, PySem.W.mg_of KX G.T.g q, h1, h2⟩
      · cases e
    · have hx : x ∈ m.excs := List.mem_of_getElem? hk
      have e : m.cr K k = He.ga K x := by unfold Mo.cr; rw [hk]
      rw [e]
      have g := gl x (fact1 (.glo x) (List.mem_append_right _ (List.mem_append_right _ (List.mem_append_left _ (List.mem_map.mpr ⟨x, hx, rfl⟩)))))
      obtain ⟨e1, e2, e3, e4⟩ := He.exc_ok (fact1 (.exc x) (List.mem_append_right _ (List.mem_append_right _ (List.mem_append_right _ (List.mem_map.mpr ⟨x, hx, rfl⟩)))))
      exact ⟨g, e2, e1, e3, e4⟩
  have T : TK K mg (He.ga K "WayError") := ⟨gl _ (fact2 _ (List.mem_cons_of_mem _ List.mem_cons_self)), fun x hx => He.free_ok KX G.T.g (fact2 (.free x) (List.mem_cons_of_mem _ (List.mem_cons_of_mem _ (List.mem_append_left _ (List.mem_map.mpr ⟨x, hx, rfl⟩)))))⟩
  have hcls : ∀ x ∈ toldCls, mg x = some (.ref (He.ga K x)) := fun x hx => gl x (fact2 (.glo x) (List.mem_cons_of_mem _ (List.mem_cons_of_mem _ (List.mem_append_right _ (List.mem_map.mpr ⟨x, hx, rfl⟩)))))
  obtain ⟨fdT, FT⟩ := He.SaysD.defs c.t.d (d := toldDD st) List.mem_cons_self
  have gT := gl "_law_told" (fact2 _ List.mem_cons_self)
  have hnm : ∀ k t, m.tnm[k]? = some t → ∃ j, ExK K mg (He.ga K "WayError") (m.cr K k) j ∧ toldTxt.getD j "" = t := by
    intro k t hk
    rw [t1, List.getElem?_map, Option.map_eq_some_iff] at hk
    obtain ⟨x, h1, h2⟩ := hk
    have e : m.cr K k = He.ga K x := by unfold Mo.cr; rw [h1]
    refine ⟨clsIx x, ?_, h2⟩
    rw [e]
    exact exkB_ok hcls (List.all_eq_true.mp ce x (List.mem_of_getElem? h1))
  obtain ⟨f, fd, F, hf⟩ := kn.fn i dl hi
  rw [hd, hf] at hmg
  cases hmg
  have tfm : ∀ p ∈ m.tf.map (He.cT K), ∃ x ∈ m.lam, p = He.cT K (x, none) := by
    intro p hp
    obtain ⟨z, hz, rfl⟩ := List.mem_map.mp hp
    obtain ⟨x, hx, rfl⟩ := List.mem_map.mp hz
    exact ⟨x, hx, rfl⟩
  have tfi : ∀ x ∈ m.lam, ((x, none) : He.Defn) ∈ m.tf := fun x hx => List.mem_map.mpr ⟨x, hx, rfl⟩
  have E : Entry K mg mb (m.tf.map (He.cT K)) a vs ns s₁ := by
    refine ⟨KX, G.T.g, G.T.b, G.T.builtins, G.T.nolimit, hg, fun p hp => ?_, fun p hp => ?_, fun p hp => ?_, G.T.bmain, hobj, hints, Nat.le_trans hlen (by decide)⟩
    · obtain ⟨x, hx, rfl⟩ := tfm p hp
      exact c.empty _ (tfi x hx)
    · obtain ⟨x, hx, rfl⟩ := tfm p hp
      exact c.out _ (tfi x hx)
    · obtain ⟨x, hx, rfl⟩ := tfm p hp
      exact PySem.W.codeHd_of_K KX (c.hd _ (tfi x hx))
  obtain ⟨x, hx⟩ : ∃ x, dl.fi.ps = [x] := by
    match h : dl.fi.ps, hp with
    | [x], _ => exact ⟨x, rfl⟩
  have ho' : dl.ok m = true := List.all_eq_true.mp ok dl (List.mem_of_getElem? hi)
  simp only [Df.ok, Bool.and_eq_true] at ho'
  have nd : dl.fi.ps.Nodup := by rw [hx]; simp
  refine law_run (fd := fd) (sp := spF K (m.tabs K) (m.cr K) 1 (m.cf n i)) (x := x) E hr (fun base kb nb tb => ?_) (fun s u => ?_) fun H hT hS => ?_
  · have z := fn_all (P := l.prog) (w := w) (TB := m.tabs K) (fun n2 i2 d2 f2 fd2 A outer s H E hi2 F2 hf2 hr2 gA hl => by
      have hd2 : d2 ∈ m.fs := List.mem_of_getElem? hi2
      have en : d2.gn = d2.fi.name := by
        have z := List.all_eq_true.mp t2 d2 hd2
        simpa [hl] using z
      have ef : f2 = He.ga K d2.gn := by
        have z := gl d2.gn (fact1 (.glo d2.gn) (List.mem_append_left _ (List.mem_map.mpr ⟨d2, hd2, rfl⟩)))
        rw [hf2] at z
        cases z
        rfl
      obtain ⟨oc, od, dV, kV, doc, pm, an, cdv, ct, osl, e1, lk, hcd, _, _⟩ := F2.ex
      obtain ⟨c2, hc2⟩ := He.codeIn_ref hcd
      have ec : fd2.code = .ref c2 := by rw [e1]; exact hc2
      have ek : (He.cT K (d2.gn, none)).1 = c2 := He.codeOf_eq (p := (d2.gn, none)) (by
        have z : He.fAd K (d2.gn, none) = f2 := ef.symm
        rw [z]
        exact lk) ec
      have tb2 := tb (He.cT K (d2.gn, none)) (List.mem_map.mpr ⟨_, tfi _ hl, rfl⟩)
      rw [ek] at tb2
      refine told_at (CS := He.ga K "WayError") (P := (He.cT K (d2.gn, none)).2) T gT FT t3 t4 gA tb2 ec (List.mem_map.mpr ⟨d2.gn, hl, by rw [en] <;> rfl⟩) (fun p hp ep => ?_) hr2 hnm
      obtain ⟨y, hy, rfl⟩ := List.mem_map.mp hp
      have eq : y = d2.gn := nodB_ok (f := fun x => (He.cT K (x, none)).2) cn y hy d2.gn hl ep
      rw [eq, en] <;> rfl) kn ok kb nb n i dl hi fa fd F hf
    rw [hx] at z
    exact z
  · have z := FunD.bindsA (ps := dl.fi.ps) F (fun _ _ _ _ _ _ us hl => bind_plain ho'.1.2 nd hl) s [u] (by rw [hx]; rfl)
    rw [hx] at z
    exact z
  · refine ⟨rfl, [.d (.list (ns.map .int))], .cons hS .nil, fun p hp => ?_, ?_⟩
    · obtain ⟨y, hy, rfl⟩ := List.mem_map.mp hp
      exact LamX.TabS.nil (hT (He.cT K (y, none)) (List.mem_map.mpr ⟨_, tfi y hy, rfl⟩))
    rw [A ns hlen hbits]
    intro x H' _ _ _ rn
    have z : Fz K H' x (.bool true) := rn
    cases z
    rfl
end Wd
/-! plain 1: the interpreter, evaluated. -/
namespace Wd
open PySem
/-- a comprehension's element -/
def elF (O : Orc) (a : E) : DEnv → R PyData := fun e2 => (ev O a e2).bind fun p e3 => match frz p e3 with
      | some (x, e4) => .ok x e4
      | none => .bad
/-! what is evaluated, one form after another -/
section
variable (O : Orc) (e : DEnv) (a b c : E) (es : Es) (i j : Nat) (x : PyData) (v : DV)
@[simp] theorem x_var : ev O (.var i) e = (match e[i]? with
    | some (some _) => .ok (.slot i) e
    | _ => .bad) := rfl
@[simp] theorem x_int (n : Int) : ev O (.int n) e = .ok (.val (.d (.int n))) e := rfl
@[simp] theorem x_str (n : Str) : ev O (.str n) e = .ok (.val (.d (.str n))) e := rfl
@[simp] theorem x_bl (n : Bool) : ev O (.bl n) e = .ok (.val (.d (.bool n))) e := rfl
@[simp] theorem x_non : ev O .non e = .ok (.val (.d .none)) e := rfl
@[simp] theorem x_glo (k : Nat) : ev O (.glo k) e = lift1 ((O.glo[k]?).map fun x => .val (.d x)) e := rfl
@[simp] theorem x_bin (o : Op2) : ev O (.bin o a b) e = (ev O a e).bind fun pa e1 => (ev O b e1).bind fun pb e2 => lift1 ((res pa e2).bind fun x => (res pb e2).bind fun y => (op2 o x y).map .val) e2 := rfl
@[simp] theorem x_neg : ev O (.neg a) e = (ev O a e).bind fun pa e1 => lift1 ((res pa e1).bind fun x => (neg1 x).map .val) e1 := rfl
@[simp] theorem x_cmp (o : Cm) : ev O (.cmp o a b) e = (ev O a e).bind fun pa e1 => (ev O b e1).bind fun pb e2 => (lift1 ((res pa e2).bind fun x => (res pb e2).bind fun y => cm2 o x y) e2).bind fun k e3 => .ok (.val (.d (.bool k))) e3 := rfl
@[simp] theorem x_ands : ev O (.ands es) e = evAnd O es e := rfl
@[simp] theorem x_ors : ev O (.ors es) e = evOr O es e := rfl
@[simp] theorem x_and1 : evAnd O (.cons a .nil) e = ev O a e := rfl
@[simp] theorem x_and2 : evAnd O (.cons a (.cons b es)) e = (ev O a e).bind fun p e1 => match res p e1 with
      | some (.bool c) => if c then evAnd O (.cons b es) e1 else .ok (.val (.d (.bool false))) e1
      | _ => .bad := rfl
@[simp] theorem x_or1 : evOr O (.cons a .nil) e = ev O a e := rfl
@[simp] theorem x_or2 : evOr O (.cons a (.cons b es)) e = (ev O a e).bind fun p e1 => match res p e1 with
      | some (.bool c) => if c then .ok (.val (.d (.bool true))) e1 else evOr O (.cons b es) e1
      | _ => .bad := rfl
@[simp] theorem x_nott : ev O (.nott a) e = (ev O a e).bind fun pa e1 => match res pa e1 with
    | some (.bool c) => .ok (.val (.d (.bool (!c)))) e1
    | _ => .bad := rfl
@[simp] theorem x_ife (t : T) : ev O (.ife t a b) e = (evT O t e).bind fun t e1 => if t then ev O a e1 else ev O b e1 := rfl
@[simp] theorem x_tup : ev O (.tup es) e = (evDs O es e).bind fun xs e1 => if xs.length ≤ sizeLine then .ok (.val (.d (.tuple xs))) e1 else .bad := rfl
@[simp] theorem x_lst : ev O (.lst es) e = (evDs O es e).bind fun xs e1 => if xs.length ≤ sizeLine then .ok (.val (.own xs)) e1 else .bad := rfl
@[simp] theorem x_idx : ev O (.idx a b) e = (ev O a e).bind fun pa e1 => (ev O b e1).bind fun pi e2 => lift1 ((res pa e2).bind fun x => (res pi e2).bind fun y => (ixd x y).map .val) e2 := rfl
@[simp] theorem x_slc (lo hi : Eo) : ev O (.slc a lo hi) e = (ev O a e).bind fun pa e1 => (evO O lo e1).bind fun l e2 => (evO O hi e2).bind fun h e3 => lift1 ((res pa e3).bind fun x => (slcd x l h).map .val) e3 := rfl
@[simp] theorem x_no : evO O .no e = .ok none e := rfl
@[simp] theorem x_so : evO O (.so a) e = (ev O a e).bind fun p e1 => match res p e1 with
    | some (.int i) => .ok (some i) e1
    | _ => .bad := rfl
@[simp] theorem x_call (f : Nat) : ev O (.call f es) e = (evDs O es e).bind fun xs e1 => match O.cf f (xs.map .d) with
    | .ok v none => .ok (.val v) e1
    | .exc k => .exc k
    | _ => .bad := rfl
@[simp] theorem x_callm (f : Nat) : ev O (.callm f i es) e = (match e[i]? with
    | some (some (.own _)) => (evDs O es e).bind fun xs e1 => (match e1[i]? with
      | some (some (.own ys)) => (match O.cf f (.own ys :: xs.map .d) with
        | .ok v (some zs) => .ok (.val v) (e1.set i (some (.own zs)))
        | _ => .bad)
      | _ => .bad)
    | _ => .bad) := rfl
@[simp] theorem x_blt (k : Blt) : ev O (.blt k es) e = (evPs O es e).bind fun xs e1 => lift1 ((bltR k xs).map .val) e1 := rfl
@[simp] theorem x_lc (g : Tg) (it : I) (ts : Ts) (own : List Nat) : ev O (.lc a g it ts own) e = (evI O it e).bind fun xs e1 => if noOwn e1 own then (lcGo g own (evTs O ts) (elF O a) xs [] e1).bind fun ys e2 => .ok (.val (.own ys)) e2 else .bad := rfl
@[simp] theorem x_elf : elF O a e = (ev O a e).bind fun p e3 => match frz p e3 with
      | some (x, e4) => .ok x e4
      | none => .bad := rfl
@[simp] theorem x_fmt : ev O (.fmt a) e = (ev O a e).bind fun p e1 => match res p e1 with
    | some (.str y) => if y.length ≤ sizeLine then .ok (.val (.d (.str y))) e1 else .bad
    | some (.int i) => if i.natAbs.log2 < 1920 then .ok (.val (.d (.str (toString i)))) e1 else .bad
    | _ => .bad := rfl
@[simp] theorem x_js : ev O (.js es) e = evJ O es Str.empty e := rfl
@[simp] theorem x_jnil (acc : Str) : evJ O .nil acc e = .ok (.val (.d (.str acc))) e := rfl
@[simp] theorem x_jcons (acc : Str) : evJ O (.cons a es) acc e = (ev O a e).bind fun p e1 => match res p e1 with
    | some (.str y) => if (acc ++ y).length ≤ sizeLine then evJ O es (acc ++ y) e1 else .bad
    | _ => .bad := rfl
@[simp] theorem x_m1 (m : M1) : ev O (.m1 m a b) e = (ev O a e).bind fun pa e1 => match res pa e1 with
    | some (.str s) => (ev O b e1).bind fun pb e2 => lift1 ((res pb e2).bind fun y => (mth1 m s y).map .val) e2
    | _ => .bad := rfl
@[simp] theorem x_ml (m : ML) : ev O (.ml m a b) e = (ev O a e).bind fun pa e1 => match res pa e1 with
    | some (.list _) => (ev O b e1).bind fun pb e2 => lift1 ((res pa e2).bind fun x => (res pb e2).bind fun y => (mthL m x y).map .val) e2
    | _ => .bad := rfl
@[simp] theorem x_rev : ev O (.rev a) e = (ev O a e).bind fun pa e1 => lift1 ((res pa e1).bind fun x => (revD x).map .val) e1 := rfl
@[simp] theorem x_told (nm : List Str) : ev O (.told nm a) e = toldR nm e (ev O a (sealD e)) := rfl
@[simp] theorem x_dstar : evDs O (.star a es) e = (ev O a e).bind fun p e1 => match (res p e1).bind seqD with
    | some ys => (evDs O es e1).bind fun xs e3 => .ok (ys ++ xs) e3
    | none => .bad := rfl
@[simp] theorem x_dnil : evDs O .nil e = .ok [] e := rfl
@[simp] theorem x_dcons : evDs O (.cons a es) e = (ev O a e).bind fun p e1 => match frz p e1 with
    | some (x, e2) => (evDs O es e2).bind fun xs e3 => .ok (x :: xs) e3
    | none => .bad := rfl
@[simp] theorem x_pnil : evPs O .nil e = .ok [] e := rfl
@[simp] theorem x_pcons : evPs O (.cons a es) e = (ev O a e).bind fun p e1 => (evPs O es e1).bind fun xs e2 => lift1 ((res p e2).map (· :: xs)) e2 := rfl
@[simp] theorem x_vnil : evVs O .nil e = .ok [] e := rfl
@[simp] theorem x_vcons : evVs O (.cons a es) e = (ev O a e).bind fun p e1 => match tak p e1 with
    | some (x, e2) => (evVs O es e2).bind fun xs e3 => .ok (x :: xs) e3
    | none => .bad := rfl
@[simp] theorem x_tru : evT O (.tru a) e = (ev O a e).bind fun p e1 => lift1 ((res p e1).bind truth) e1 := rfl
@[simp] theorem x_tcmp (o : Cm) : evT O (.cmp o a b) e = (ev O a e).bind fun pa e1 => (ev O b e1).bind fun pb e2 => lift1 ((res pa e2).bind fun x => (res pb e2).bind fun y => cm2 o x y) e2 := rfl
@[simp] theorem x_tchain (o p : Cm) : evT O (.chain o p a b c) e = (ev O a e).bind fun pa e1 => (ev O b e1).bind fun pb e2 => (lift1 ((res pa e2).bind fun x => (res pb e2).bind fun y => cm2 o x y) e2).bind fun k e2 => if k then (ev O c e2).bind fun pc e3 => lift1 ((res pb e3).bind fun y => (res pc e3).bind fun z => cm2 p y z) e3 else .ok false e2 := rfl
@[simp] theorem x_tands (ts : Ts) : evT O (.ands ts) e = evTs O ts e := rfl
@[simp] theorem x_tors (ts : Ts) : evT O (.ors ts) e = evTo O ts e := rfl
@[simp] theorem x_tnott (t : T) : evT O (.nott t) e = (evT O t e).bind fun b e1 => .ok (!b) e1 := rfl
@[simp] theorem x_tsnil : evTs O .nil e = .ok true e := rfl
@[simp] theorem x_tscons (t : T) (ts : Ts) : evTs O (.cons t ts) e = (evT O t e).bind fun b e1 => if b then evTs O ts e1 else .ok false e1 := rfl
@[simp] theorem x_tonil : evTo O .nil e = .ok false e := rfl
@[simp] theorem x_tocons (t : T) (ts : Ts) : evTo O (.cons t ts) e = (evT O t e).bind fun b e1 => if b then .ok true e1 else evTo O ts e1 := rfl
@[simp] theorem x_idata : evI O (.data a) e = (ev O a e).bind fun p e1 => match frz p e1 with
    | some (x, e2) => lift1 (items x) e2
    | none => .bad := rfl
@[simp] theorem x_irng1 : evI O (.rng1 a) e = (ev O a e).bind fun p e1 => match res p e1 with
    | some (.int n) => if small62 n then .ok (rangeD 0 n.toNat) e1 else .bad
    | _ => .bad := rfl
@[simp] theorem x_irng2 : evI O (.rng2 a b) e = (ev O a e).bind fun p e1 => (ev O b e1).bind fun q e2 => match res p e2, res q e2 with
    | some (.int n), some (.int m) => if small62 n && small62 m then .ok (rangeD n (m - n).toNat) e2 else .bad
    | _, _ => .bad := rfl
@[simp] theorem x_ienum : evI O (.enum es) e = (evDs O es e).bind fun xs e1 => lift1 (enumOf xs) e1 := rfl
@[simp] theorem x_izip : evI O (.zip es) e = (evDs O es e).bind fun xs e1 => lift1 (zipOf xs) e1 := rfl
@[simp] theorem x_res1 : res (.val v) e = some v.data := rfl
@[simp] theorem x_res2 : res (.slot i) e = (match e[i]? with
    | some (some v) => some v.data
    | _ => none) := rfl
@[simp] theorem x_frz1 : frz (.val v) e = some (v.data, e) := rfl
@[simp] theorem x_frz2 : frz (.slot i) e = (match e[i]? with
    | some (some (.d x)) => some (x, e)
    | some (some (.own xs)) => some (.list xs, e.set i (some (.d (.list xs))))
    | _ => none) := rfl
@[simp] theorem x_tak1 : tak (.val v) e = some (v, e) := rfl
@[simp] theorem x_tak2 : tak (.slot i) e = (match e[i]? with
    | some (some (.d x)) => some (.d x, e)
    | some (some (.own xs)) => some (.d (.list xs), e.set i (some (.d (.list xs))))
    | _ => none) := rfl
@[simp] theorem x_dd : (DV.d x).data = x := rfl
@[simp] theorem x_do (xs : List PyData) : (DV.own xs).data = .list xs := rfl
@[simp] theorem x_lift {α : Type} (y : α) : lift1 (some y) e = .ok y e := rfl
/-! statements -/
@[simp] theorem x_nil : exSs O .nil e = .ok .nx e := rfl
@[simp] theorem x_cons (s : S) (ss : Ss) : exSs O (.cons s ss) e = (exS O s e).bind fun f e1 => match f with
    | .nx => exSs O ss e1
    | .ret v => .ok (.ret v) e1
    | .brk => .ok .brk e1
    | .ct => .ok .ct e1 := rfl
@[simp] theorem x_set : exS O (.set i a) e = (ev O a e).bind fun p e1 => match tak p e1 with
    | some (v, e2) => if i < e2.length then .ok .nx (e2.set i (some v)) else .bad
    | none => .bad := rfl
@[simp] theorem x_par (is : List Nat) : exS O (.par is es) e = (evVs O es e).bind fun vs e1 => match setAll is vs e1 with
    | some e2 => .ok .nx e2
    | none => .bad := rfl
@[simp] theorem x_unp (g : Tg) : exS O (.unp g a) e = (ev O a e).bind fun p e1 => match frz p e1 with
    | some (x, e2) => (match bindT g x e2 with
      | some e3 => .ok .nx e3
      | none => .bad)
    | none => .bad := rfl
@[simp] theorem x_seti : exS O (.seti i a b) e = (ev O b e).bind fun p e1 => match frz p e1 with
    | some (y, e2) => (match e2[i]? with
      | some (some (.own _)) => (ev O a e2).bind fun q e3 => (match e3[i]?, res q e3 with
        | some (some (.own xs)), some (.int k) => (match L2.ixN xs.length k with
          | some j => .ok .nx (e3.set i (some (.own (xs.set j y))))
          | none => .bad)
        | _, _ => .bad)
      | _ => .bad)
    | none => .bad := rfl
@[simp] theorem x_app : exS O (.app i a) e = (match e[i]? with
    | some (some (.own _)) => (ev O a e).bind fun p e1 => (match frz p e1 with
      | some (y, e2) => (match e2[i]? with
        | some (some (.own xs)) => if xs.length < sizeLine then .ok .nx (e2.set i (some (.own (xs ++ [y])))) else .bad
        | _ => .bad)
      | none => .bad)
    | _ => .bad) := rfl
@[simp] theorem x_expr : exS O (.expr a) e = (ev O a e).bind fun _ e1 => .ok .nx e1 := rfl
@[simp] theorem x_ifs (t : T) (s1 s2 : Ss) : exS O (.ifs t s1 s2) e = (evT O t e).bind fun t e1 => if t then exSs O s1 e1 else exSs O s2 e1 := rfl
@[simp] theorem x_fors (g : Tg) (it : I) (s : Ss) : exS O (.fors g it s) e = (evI O it e).bind fun xs e1 => forL g (exSs O s) xs e1 := rfl
@[simp] theorem x_whl (t : T) (s : Ss) : exS O (.whl t s) e = whL (evT O t) (exSs O s) fuelW e := rfl
@[simp] theorem x_ret : exS O (.ret a) e = (ev O a e).bind fun p e1 => match tak p e1 with
    | some (v, e2) => .ok (.ret v) e2
    | none => .bad := rfl
@[simp] theorem x_retn : exS O .retn e = .ok (.ret (.d .none)) e := rfl
@[simp] theorem x_rais : exS O (.rais i) e = .exc i := rfl
@[simp] theorem x_brk : exS O .brk e = .ok .brk e := rfl
@[simp] theorem x_cont : exS O .cont e = .ok .ct e := rfl
@[simp] theorem x_pass : exS O .pass e = .ok .nx e := rfl
@[simp] theorem x_sanil : setAll [] [] e = some e := rfl
@[simp] theorem x_sacons (is : List Nat) (vs : List DV) : setAll (i :: is) (v :: vs) e = if i < e.length then setAll is vs (e.set i (some v)) else none := rfl
@[simp] theorem x_bt1 : bindT (.name i) x e = if i < e.length then some (e.set i (some (.d x))) else none := rfl
@[simp] theorem x_bt2 (gs : Tgs) (xs : List PyData) : bindT (.tup gs) (.tuple xs) e = bindTs gs xs e := rfl
@[simp] theorem x_bts1 : bindTs .nil [] e = some e := rfl
@[simp] theorem x_bts2 (g : Tg) (gs : Tgs) (xs : List PyData) : bindTs (.cons g gs) (x :: xs) e = (match bindT g x e with
    | some e1 => bindTs gs xs e1
    | none => none) := rfl
end
/-! operators by kinds -/
section
variable (i j : Int) (x y : PyData) (xs ys : List PyData)
@[simp] theorem o_add : op2 .add (.int i) (.int j) = some (.d (.int (i + j))) := rfl
@[simp] theorem o_sub : op2 .sub (.int i) (.int j) = some (.d (.int (i - j))) := rfl
@[simp] theorem o_mul : op2 .mul (.int i) (.int j) = if mulOk i j then some (.d (.int (i * j))) else none := rfl
@[simp] theorem o_fdiv : op2 .fdiv (.int i) (.int j) = if divOk j then some (.d (.int (i.fdiv j))) else none := rfl
@[simp] theorem o_mod : op2 .mod (.int i) (.int j) = if j ≠ 0 then some (.d (.int (i.fmod j))) else none := rfl
@[simp] theorem o_adds (s t : Str) : op2 .add (.str s) (.str t) = if s.length + t.length ≤ sizeLine then some (.d (.str (s ++ t))) else none := rfl
@[simp] theorem o_neg : neg1 (.int i) = some (.d (.int (-i))) := rfl
@[simp] theorem o_lt : cm2 .lt (.int i) (.int j) = some (decide (i < j)) := rfl
@[simp] theorem o_le : cm2 .le (.int i) (.int j) = some (decide (i ≤ j)) := rfl
@[simp] theorem o_gt : cm2 .gt (.int i) (.int j) = some (decide (j < i)) := rfl
@[simp] theorem o_ge : cm2 .ge (.int i) (.int j) = some (decide (j ≤ i)) := rfl
theorem eqd_ok (h : eqOk x y = true) (n : ∀ s t, x = .str s → y = .str t → False) : eqd x y = some (PyData.eqv x y) := by
  unfold eqd
  split
  · exact (n _ _ rfl rfl).elim
  · rw [if_pos h]
@[simp] theorem o_eqi : cm2 .eq (.int i) (.int j) = some (decide (i = j)) := by
  show eqd (.int i) (.int j) = some (decide (i = j))
  rw [eqd_ok _ _ rfl (fun _ _ h => by cases h)]
  have : PyData.eqv (.int i) (.int j) = (i == j) := by first | rfl | simp [PyData.eqv]
  rw [this]
  rfl
@[simp] theorem o_nei : cm2 .ne (.int i) (.int j) = some (!decide (i = j)) := by
  show (eqd (.int i) (.int j)).map (!·) = some (!decide (i = j))
  have h := o_eqi i j
  have h2 : eqd (.int i) (.int j) = some (decide (i = j)) := h
  rw [h2]
  rfl
@[simp] theorem o_eqs (s t : Str) : cm2 .eq (.str s) (.str t) = some (decide (s = t)) := rfl
@[simp] theorem o_nes (s t : Str) : cm2 .ne (.str s) (.str t) = some (!decide (s = t)) := rfl
@[simp] theorem o_ixl : ixd (.list xs) (.int i) = (L2.atI xs i).map .d := rfl
@[simp] theorem o_ixt : ixd (.tuple xs) (.int i) = (L2.atI xs i).map .d := rfl
@[simp] theorem o_slcl (lo hi : Option Int) : slcd (.list xs) lo hi = some (.own (cutD xs lo hi)) := rfl
@[simp] theorem o_abs : bltR .abs [.int i] = some (.d (.int (if i < 0 then -i else i))) := rfl
@[simp] theorem o_int : bltR .int [.int i] = some (.d (.int i)) := rfl
@[simp] theorem o_intb (b : Bool) : bltR .int [.bool b] = some (.d (.int (if b then 1 else 0))) := rfl
@[simp] theorem o_lenl : bltR .len [.list xs] = some (.d (.int xs.length)) := rfl
@[simp] theorem o_lent : bltR .len [.tuple xs] = some (.d (.int xs.length)) := rfl
@[simp] theorem o_max : bltR .max [.int i, .int j] = some (.d (.int (if j > i then j else i))) := rfl
@[simp] theorem o_min : bltR .min [.int i, .int j] = some (.d (.int (if j < i then j else i))) := rfl
@[simp] theorem o_repr : bltR .repr [.list xs] = if showOk (.list xs) then some (.d (.str (PyData.shown (.list xs)))) else none := rfl
@[simp] theorem o_str : bltR .str [.int i] = if i.natAbs.log2 < 1920 then some (.d (.str (toString i))) else none := rfl
@[simp] theorem o_list : bltR .list [.list xs] = some (.own xs) := rfl
@[simp] theorem o_listt : bltR .list [.tuple xs] = some (.own xs) := rfl
@[simp] theorem o_tuple : bltR .tuple [.list xs] = some (.d (.tuple xs)) := rfl
@[simp] theorem o_tuplet : bltR .tuple [.tuple xs] = some (.d (.tuple xs)) := rfl
@[simp] theorem o_items : items (.list xs) = some xs := rfl
@[simp] theorem o_itemst : items (.tuple xs) = some xs := rfl
@[simp] theorem o_trb (b : Bool) : truth (.bool b) = some b := rfl
@[simp] theorem o_zip : zipOf [.list xs, .list ys] = some (List.zipWith (fun u v => .tuple [u, v]) xs ys) := rfl
theorem ixn_nat {n m : Nat} (h : n < m) : L2.ixN m (n : Int) = some n := by
  unfold L2.ixN
  rw [if_pos (by omega), if_pos (by omega)]
  simp
theorem at_nat {n : Nat} (h : n < xs.length) : L2.atI xs (n : Int) = xs[n]? := by
  unfold L2.atI
  rw [ixn_nat h]
  rfl
@[simp] theorem at0 : L2.atI (x :: xs) 0 = some x := by
  have h := at_nat (x :: xs) (n := 0) (by simp)
  exact h
@[simp] theorem at1 : L2.atI (x :: y :: xs) 1 = some y := by
  have h := at_nat (x :: y :: xs) (n := 1) (by simp)
  exact h
end
theorem bind_cg {α β : Type} {r r' : R α} (f : α → DEnv → R β) (h : r = r') : r.bind f = r'.bind f := by rw [h]
end Wd
/-! plain 2: numbers, loops. -/
namespace Wd
open PySem
theorem sz_few {n : Nat} (h : n ≤ 1000) : (n ≤ sizeLine) = True := by
  have : (1000 : Nat) ≤ sizeLine := by decide
  exact eq_true (Nat.le_trans h this)
@[simp] theorem sz1 : (1 ≤ sizeLine) = True := sz_few (by omega)
@[simp] theorem sz2 : (2 ≤ sizeLine) = True := sz_few (by omega)
@[simp] theorem sz3 : (3 ≤ sizeLine) = True := sz_few (by omega)
@[simp] theorem sz4 : (4 ≤ sizeLine) = True := sz_few (by omega)
@[simp] theorem sz5 : (5 ≤ sizeLine) = True := sz_few (by omega)
@[simp] theorem sz6 : (6 ≤ sizeLine) = True := sz_few (by omega)
/-- numbers of few bits -/
def Bd (k : Nat) (i : Int) : Prop := i.natAbs < 2 ^ k
theorem Bd.log {k : Nat} {i : Int} (h : Bd k i) : i.natAbs.log2 ≤ k := by
  by_cases h0 : i.natAbs = 0
  · rw [h0]
    simp
  · exact Nat.le_of_lt ((Nat.log2_lt h0).mpr h)
theorem Bd.mulOk {k l : Nat} {i j : Int} (h1 : Bd k i) (h2 : Bd l j) (h : k + l < 1000000) : mulOk i j = true := by
  have := h1.log
  have := h2.log
  exact decide_eq_true (by omega)
theorem Bd.divOk {k : Nat} {j : Int} (h1 : Bd k j) (h0 : j ≠ 0) (h : k < 9000) : divOk j = true := by
  have := h1.log
  simp only [Wd.divOk, Bool.and_eq_true, decide_eq_true_eq]
  exact ⟨h0, by omega⟩
theorem Bd.mono {k l : Nat} {i : Int} (h : Bd k i) (hl : k ≤ l) : Bd l i := Nat.lt_of_lt_of_le h (Nat.pow_le_pow_right (by omega) hl)
theorem Bd.mul {k l : Nat} {i j : Int} (h1 : Bd k i) (h2 : Bd l j) : Bd (k + l) (i * j) := by
  unfold Bd at *
  rw [Int.natAbs_mul, Nat.pow_add]
  exact Nat.mul_lt_mul'' h1 h2
theorem Bd.add {k : Nat} {i j : Int} (h1 : Bd k i) (h2 : Bd k j) : Bd (k + 1) (i + j) := by
  unfold Bd at *
  have := Int.natAbs_add_le i j
  rw [Nat.pow_succ]
  omega
theorem Bd.neg {k : Nat} {i : Int} (h : Bd k i) : Bd k (-i) := by
  unfold Bd at *
  rw [Int.natAbs_neg]
  exact h
theorem Bd.of {k : Nat} {i : Int} (h1 : -(2 ^ k : Nat) < i) (h2 : i < (2 ^ k : Nat)) : Bd k i := by
  unfold Bd
  omega
theorem fdiv_abs (i j : Int) : (i.fdiv j).natAbs ≤ i.natAbs := by
  have key : ∀ m n : Nat, (m / n : Nat) ≤ m := fun m n => Nat.div_le_self m n
  rcases Int.eq_nat_or_neg i with ⟨m, rfl | rfl⟩ <;> rcases Int.eq_nat_or_neg j with ⟨n, rfl | rfl⟩
  · rw [Int.fdiv_eq_ediv_of_nonneg _ (by omega)]
    have := Int.natAbs_ediv_le_natAbs (m : Int) n
    omega
  · rw [← Int.neg_fdiv_neg, Int.neg_neg, Int.fdiv_eq_ediv_of_nonneg _ (by omega)]
    have := Int.natAbs_ediv_le_natAbs (-(m : Int)) n
    omega
  · rw [Int.fdiv_eq_ediv_of_nonneg _ (by omega)]
    have := Int.natAbs_ediv_le_natAbs (-(m : Int)) n
    omega
  · rw [Int.neg_fdiv_neg, Int.fdiv_eq_ediv_of_nonneg _ (by omega)]
    have := Int.natAbs_ediv_le_natAbs (m : Int) n
    omega
theorem Bd.fdiv {k : Nat} {i : Int} (h : Bd k i) (j : Int) : Bd k (i.fdiv j) := Nat.lt_of_le_of_lt (fdiv_abs i j) h
/-! ### loops -/
theorem forL_run {g : Tg} {body : DEnv → R Fl} (Inv : Nat → DEnv → Prop) (Post : DEnv → Prop) : ∀ (xs : List PyData) (i0 : Nat) (e : DEnv), Inv i0 e →
    (∀ i x e, xs[i]? = some x → Inv (i0 + i) e → ∃ e1 e2 fl, bindT g x e = some e1 ∧ body e1 = .ok fl e2 ∧ (((fl = .nx ∨ fl = .ct) ∧ Inv (i0 + i + 1) e2) ∨ (fl = .brk ∧ Post e2))) →
    (∀ e, Inv (i0 + xs.length) e → Post e) → ∃ e', forL g body xs e = .ok .nx e' ∧ Post e'
  | [], i0, e, h, _, hp => ⟨e, rfl, hp e h⟩
  | x :: xs, i0, e, h, hs, hp => by
    obtain ⟨e1, e2, fl, h1, h2, h3⟩ := hs 0 x e rfl h
    unfold forL
    rw [h1]
    dsimp only
    rw [h2, R.bind_ok]
    rcases h3 with ⟨h3, h4⟩ | ⟨rfl, h4⟩
    · obtain ⟨e', q1, q2⟩ := forL_run (body := body) Inv Post xs (i0 + 1) e2 h4 (fun i y e' hy he => by
        have z := hs (i + 1) y e' hy (by rw [show i0 + (i + 1) = i0 + 1 + i by omega]; exact he)
        rw [show i0 + (i + 1) + 1 = i0 + 1 + i + 1 by omega] at z
        exact z) (fun e' he => hp e' (by rw [List.length_cons, show i0 + (xs.length + 1) = i0 + 1 + xs.length by omega]; exact he))
      exact ⟨e', by rcases h3 with rfl | rfl <;> exact q1, q2⟩
    · exact ⟨e2, rfl, h4⟩
theorem lcGo_run {g : Tg} {own : List Nat} {tst : DEnv → R Bool} {elt : DEnv → R PyData} (Inv : Nat → List PyData → DEnv → Prop) : ∀ (xs : List PyData) (i0 : Nat) (acc : List PyData) (e : DEnv), Inv i0 acc e →
    (∀ i x acc e, xs[i]? = some x → Inv (i0 + i) acc e → ∃ e1 e2, bindT g x (wipeD e own) = some e1 ∧ ((tst e1 = .ok false e2 ∧ Inv (i0 + i + 1) acc (unwipe e e2 own)) ∨ (tst e1 = .ok true e2 ∧ ∃ y e3, elt e2 = .ok y e3 ∧ acc.length < sizeLine ∧ Inv (i0 + i + 1) (acc ++ [y]) (unwipe e e3 own)))) →
    ∃ ys e', lcGo g own tst elt xs acc e = .ok ys e' ∧ Inv (i0 + xs.length) ys e'
  | [], i0, acc, e, h, _ => ⟨acc, e, rfl, h⟩
  | x :: xs, i0, acc, e, h, hs => by
    obtain ⟨e1, e2, h1, h2⟩ := hs 0 x acc e rfl h
    have nx : ∀ acc' e', Inv (i0 + 0 + 1) acc' e' → ∃ ys e'', lcGo g own tst elt xs acc' e' = .ok ys e'' ∧ Inv (i0 + (x :: xs).length) ys e'' := fun acc' e' he => by
      obtain ⟨ys, e'', q1, q2⟩ := lcGo_run (tst := tst) (elt := elt) Inv xs (i0 + 1) acc' e' he (fun i y a e' hy he => by
        have z := hs (i + 1) y a e' hy (by rw [show i0 + (i + 1) = i0 + 1 + i by omega]; exact he)
        rw [show i0 + (i + 1) + 1 = i0 + 1 + i + 1 by omega] at z
        exact z)
      exact ⟨ys, e'', q1, by rw [List.length_cons, show i0 + (xs.length + 1) = i0 + 1 + xs.length by omega]; exact q2⟩
    unfold lcGo
    rw [h1]
    dsimp only
    rcases h2 with ⟨h2, h3⟩ | ⟨h2, y, e3, h3, h4, h5⟩
    · rw [h2]
      exact nx _ _ h3
    · rw [h2]
      show ∃ ys e', ((noExc (elt e2)).bind fun y e3 => if acc.length < sizeLine then lcGo g own tst elt xs (acc ++ [y]) (unwipe e e3 own) else .bad) = .ok ys e' ∧ _
      rw [h3]
      show ∃ ys e', (if acc.length < sizeLine then lcGo g own tst elt xs (acc ++ [y]) (unwipe e e3 own) else .bad) = .ok ys e' ∧ _
      rw [if_pos h4]
      exact nx _ _ h5
/-- Euclid's loop -/
theorem whL_gcd {c : DEnv → R Bool} {body : DEnv → R Fl} (E : Nat → Nat → DEnv) (hc : ∀ a b : Nat, c (E a b) = .ok (decide ((0 : Int) < b)) (E a b)) (hb : ∀ a b : Nat, 0 < b → body (E a b) = .ok .nx (E b (a % b))) :
    ∀ (k a b : Nat), b < 2 ^ k → ∀ fuel, 2 * k + 1 ≤ fuel → whL c body fuel (E a b) = .ok .nx (E (Nat.gcd a b) 0)
  | k, a, 0, _, fuel, hf => by
    obtain ⟨f, rfl⟩ : ∃ f, fuel = f + 1 := ⟨fuel - 1, by omega⟩
    unfold whL
    rw [hc]
    simp
  | 0, a, b + 1, h, fuel, hf => by
    simp at h
  | k + 1, a, b + 1, h, fuel, hf => by
    obtain ⟨f, rfl⟩ : ∃ f, fuel = f + 1 + 1 := ⟨fuel - 2, by omega⟩
    have d1 : decide ((0 : Int) < ((b + 1 : Nat) : Int)) = true := by simp
    rw [whL, hc, d1, R.bind_ok, if_pos rfl, hb _ _ (by omega), R.bind_ok]
    dsimp only
    by_cases hr : a % (b + 1) = 0
    · rw [hr, whL, hc, Nat.gcd_comm, Nat.gcd_rec, hr]
      simp
    · have d2 : decide ((0 : Int) < ((a % (b + 1) : Nat) : Int)) = true := by
        refine decide_eq_true ?_
        have := Nat.pos_of_ne_zero hr
        exact Int.ofNat_lt.mpr this
      have l1 : a % (b + 1) < b + 1 := Nat.mod_lt _ (by omega)
      rw [whL, hc, d2, R.bind_ok, if_pos rfl, hb _ _ (Nat.pos_of_ne_zero hr), R.bind_ok]
      dsimp only
      have l2 : (b + 1) % (a % (b + 1)) < 2 ^ k := by
        have h1 := Nat.mod_lt (b + 1) (Nat.pos_of_ne_zero hr)
        have h2 : (b + 1) % (a % (b + 1)) + a % (b + 1) ≤ b + 1 := by
          have := Nat.div_add_mod (b + 1) (a % (b + 1))
          have q : 1 ≤ (b + 1) / (a % (b + 1)) := (Nat.le_div_iff_mul_le (Nat.pos_of_ne_zero hr)).mpr (by omega)
          have := Nat.mul_le_mul_left (a % (b + 1)) q
          omega
        rw [Nat.pow_succ] at h
        omega
      rw [whL_gcd E hc hb k _ _ l2 f (by omega)]
      have e : Nat.gcd (a % (b + 1)) ((b + 1) % (a % (b + 1))) = Nat.gcd a (b + 1) := by
        rw [Nat.gcd_comm, ← Nat.gcd_rec, ← Nat.gcd_rec, Nat.gcd_comm]
      rw [e]
/-! ### texts -/
structure Sh (d n : Nat) (x : PyData) : Prop where
  s : x.showable = true
  h : x.hasDict = false
  dp : x.depth ≤ d
  len : x.shown.length ≤ n
theorem Sh.mono {d n d' n' : Nat} {x : PyData} (h : Sh d n x) (h1 : d ≤ d') (h2 : n ≤ n') : Sh d' n' x := ⟨h.s, h.h, Nat.le_trans h.dp h1, Nat.le_trans h.len h2⟩
theorem Sh.int {i : Int} (h : Bd 1900 i) : Sh 0 1921 (.int i) := by
  have hl : i.natAbs.log2 < 1920 := by have := h.log; omega
  refine ⟨by simp only [PyData.showable]; exact decide_eq_true hl, by simp only [PyData.hasDict], by simp [PyData.depth], ?_⟩
  simp only [PyData.shown]
  exact PyProof.Rows.int_text_len_1921 hl
theorem Sh.bool {b : Bool} : Sh 0 5 (.bool b) := by
  refine ⟨by simp only [PyData.showable], by simp only [PyData.hasDict], by simp [PyData.depth], ?_⟩
  simp only [PyData.shown]
  cases b <;> decide
theorem sh_all {d n : Nat} : ∀ {xs : List PyData}, (∀ x ∈ xs, Sh d n x) → PyData.showableAll xs = true ∧ PyData.hasDictAll xs = false ∧ PyData.depthAll xs ≤ d ∧ ((PyData.shownAll xs).map (·.length)).sum ≤ n * xs.length ∧ (PyData.shownAll xs).length = xs.length
  | [], _ => by simp [PyData.showableAll, PyData.hasDictAll, PyData.depthAll, PyData.shownAll]
  | x :: xs, h => by
    obtain ⟨h1, h2, h3, h4, h5⟩ := sh_all (xs := xs) fun y hy => h y (List.mem_cons_of_mem _ hy)
    have hx := h x List.mem_cons_self
    refine ⟨by simp only [PyData.showableAll, hx.s, h1, Bool.and_self], by simp only [PyData.hasDictAll, hx.h, h2, Bool.or_self], ?_, ?_, ?_⟩
    · simp only [PyData.depthAll]
      exact Nat.max_le.mpr ⟨hx.dp, h3⟩
    · simp only [PyData.shownAll, List.map_cons, List.sum_cons, List.length_cons]
      have := hx.len
      rw [Nat.mul_succ]
      omega
    · simp only [PyData.shownAll, List.length_cons, h5]
theorem Sh.list {d n : Nat} {xs : List PyData} (h : ∀ x ∈ xs, Sh d n x) : Sh (d + 1) ((n + 2) * xs.length + 3) (.list xs) := by
  obtain ⟨h1, h2, h3, h4, h5⟩ := sh_all h
  refine ⟨by simp only [PyData.showable, h1], by simp only [PyData.hasDict, h2], by simp only [PyData.depth]; omega, ?_⟩
  simp only [PyData.shown]
  have := listText_len_le (PyData.shownAll xs)
  rw [h5] at this
  rw [Nat.add_mul]
  omega
theorem Sh.tuple {d n : Nat} {xs : List PyData} (h : ∀ x ∈ xs, Sh d n x) : Sh (d + 1) ((n + 2) * xs.length + 3) (.tuple xs) := by
  obtain ⟨h1, h2, h3, h4, h5⟩ := sh_all h
  refine ⟨by simp only [PyData.showable, h1], by simp only [PyData.hasDict, h2], by simp only [PyData.depth]; omega, ?_⟩
  simp only [PyData.shown]
  have := tupleText_len_le (PyData.shownAll xs)
  rw [h5] at this
  rw [Nat.add_mul]
  omega
theorem sh_one {d n : Nat} {x : PyData} (h : Sh d n x) (h1 : d ≤ 59) (h2 : n ≤ 16777000) : showOk (.list [x]) = true := by
  have z := Sh.list (xs := [x]) (d := d) (n := n) fun y hy => by
    rw [List.mem_singleton] at hy
    rw [hy]
    exact h
  have e : sizeLine = 16777216 := by decide
  have z4 := z.len
  simp only [List.length_singleton] at z4
  have z3 := z.dp
  simp only [showOk, z.s, z.h, Bool.not_false, Bool.and_true, Bool.true_and, Bool.and_eq_true, decide_eq_true_eq]
  exact ⟨by omega, by omega⟩
/-! ### defs -/
theorem runF_ret {O : Orc} {F : FI} {args : List DV} {e0 e : DEnv} {v : DV} (h1 : args.length = F.ps.length) (h2 : argOk F.mut0 args = true) (he : args.map some ++ List.replicate (F.N.length - args.length) none = e0) (h3 : exSs O F.body e0 = .ok (.ret v) e) : runF O F args = finR F.mut0 v e := by
  unfold runF
  rw [if_pos ⟨h1, h2⟩, he, h3]
theorem runF_nx {O : Orc} {F : FI} {args : List DV} {e0 e : DEnv} (h1 : args.length = F.ps.length) (h2 : argOk F.mut0 args = true) (he : args.map some ++ List.replicate (F.N.length - args.length) none = e0) (h3 : exSs O F.body e0 = .ok .nx e) : runF O F args = finR F.mut0 (.d .none) e := by
  unfold runF
  rw [if_pos ⟨h1, h2⟩, he, h3]
theorem runF_exc {O : Orc} {F : FI} {args : List DV} {e0 : DEnv} {k : Nat} (h1 : args.length = F.ps.length) (h2 : argOk F.mut0 args = true) (h0 : F.mut0 = false) (he : args.map some ++ List.replicate (F.N.length - args.length) none = e0) (h3 : exSs O F.body e0 = .exc k) : runF O F args = .exc k := by
  unfold runF
  rw [if_pos ⟨h1, h2⟩, he, h3, h0]
  rfl
theorem run_cons {O : Orc} {s : S} {ss : Ss} {e e1 : DEnv} {r : R Fl} (h : exS O s e = .ok .nx e1) (k : exSs O ss e1 = r) : exSs O (.cons s ss) e = r := by
  rw [x_cons, h]
  exact k
theorem run_ret {O : Orc} {s : S} {ss : Ss} {e e1 : DEnv} {v : DV} (h : exS O s e = .ok (.ret v) e1) : exSs O (.cons s ss) e = .ok (.ret v) e1 := by
  rw [x_cons, h]
  rfl
theorem run_exc {O : Orc} {s : S} {ss : Ss} {e : DEnv} {k : Nat} (h : exS O s e = .exc k) : exSs O (.cons s ss) e = .exc k := by
  rw [x_cons, h]
  rfl
theorem runF_one {O : Orc} {F : FI} {args : List DV} {s : S} {e0 : DEnv} {v : DV} (hb : F.body = .cons s .nil) (h0 : F.mut0 = false) (h1 : args.length = F.ps.length) (h2 : argOk F.mut0 args = true) (he : args.map some ++ List.replicate (F.N.length - args.length) none = e0) (h3 : exS O s e0 = .ok (.ret v) e0) : runF O F args = .ok v none := by
  refine (runF_ret h1 h2 he (by rw [hb]; exact run_ret h3)).trans ?_
  rw [h0]
  rfl
theorem absE (a : Int) : (if a < 0 then -a else a) = (a.natAbs : Int) := by split <;> omega
theorem fmod_nat (a b : Nat) : (a : Int).fmod b = ((a % b : Nat) : Int) := by
  rw [Int.fmod_eq_emod_of_nonneg _ (by omega)]
  rfl
theorem fdiv_nat (a b : Nat) : (a : Int).fdiv b = ((a / b : Nat) : Int) := by
  rw [Int.fdiv_eq_ediv_of_nonneg _ (by omega)]
  rfl
theorem cf_eq (m : Mo) (n i : Nat) (ds : List DV) (F : FI) (h : m.tb[i]? = some F) : m.cf (n + 1) i ds = runF { cf := m.cf n, glo := m.gl } F ds := by
  show (match m.tb[i]? with
    | some F => runF { cf := callF m.tb m.gl n, glo := m.gl } F ds
    | none => CA.bad) = _
  rw [h]
  rfl
theorem cut_all (xs : List PyData) (k : Nat) (h : xs.length ≤ k) : cutD xs none (some (k : Int)) = xs := by
  unfold cutD
  rw [HT.sIx_nat, HT.sIx_none, Nat.min_eq_right h]
  simp
theorem cut_from (xs : List PyData) (k : Nat) (h : k ≤ xs.length) : cutD xs (some (k : Int)) none = xs.drop k := by
  unfold cutD
  rw [HT.sIx_nat, HT.sIx_none, Nat.min_eq_left h]
  rw [List.take_of_length_le (by simp)]
theorem o_pow (i j : Int) : op2 .pow (.int i) (.int j) = if 0 ≤ j ∧ j ≤ 1000000 ∧ i.natAbs < 2 ^ 64 then some (.d (.int (i ^ j.toNat))) else none := rfl
theorem bd_nat {k n : Nat} (h : n < 2 ^ k) : Bd k (n : Int) := h
theorem bd_mod {k : Nat} {a b : Int} (h0 : 0 < b) (h : b ≤ (2 ^ k : Nat)) : Bd k (a.fmod b) := by
  rw [Int.fmod_eq_emod_of_nonneg _ (by omega)]
  have h1 := Int.emod_nonneg a (b := b) (by omega)
  have h2 := Int.emod_lt_of_pos a h0
  exact Bd.of (by omega) (by omega)
theorem fmod_range {a b : Int} (h0 : 0 < b) : 0 ≤ a.fmod b ∧ a.fmod b < b := by
  rw [Int.fmod_eq_emod_of_nonneg _ (by omega)]
  exact ⟨Int.emod_nonneg a (by omega), Int.emod_lt_of_pos a h0⟩
end Wd
namespace Wd
open PySem
theorem range_get {n i : Nat} {x : PyData} (h : (rangeD 0 n)[i]? = some x) : i < n ∧ x = .int i := by
  unfold rangeD at h
  rw [List.getElem?_map, Option.map_eq_some_iff] at h
  obtain ⟨j, hj, rfl⟩ := h
  obtain ⟨h1, h2⟩ := List.getElem?_eq_some_iff.mp hj
  simp at h1 h2
  exact ⟨h1, by rw [← h2, Int.zero_add]⟩
theorem range_len (n : Nat) : (rangeD 0 n).length = n := by simp [rangeD]
theorem fold_take {α β : Type} (f : β → α → β) (b : β) {xs : List α} {i : Nat} {x : α} (h : xs[i]? = some x) : (xs.take (i + 1)).foldl f b = f ((xs.take i).foldl f b) x := by
  rw [List.take_succ, h]
  simp
end Wd
namespace Wd
open PySem
/-- texts of code points -/
def Chs (x : Str) : Prop := ∀ c ∈ x.cps.toList, c < 16 ^ 8
theorem chs_of (s : String) : Chs (s : Str) := by
  intro c hc
  have e : ((s : Str)).cps.toList = s.toList.map Char.toNat := by
    show (Str.ofString s).cps.toList = _
    rw [Str.ofString_eq_toList]
  rw [e] at hc
  obtain ⟨ch, _, rfl⟩ := List.mem_map.mp hc
  have := ch.val.toNat_lt
  exact Nat.lt_of_lt_of_le this (by decide)
theorem Chs.append {x y : Str} (h1 : Chs x) (h2 : Chs y) : Chs (x ++ y) := by
  intro c hc
  rw [Str.cps_append, Array.toList_append] at hc
  rcases List.mem_append.mp hc with h | h
  · exact h1 c h
  · exact h2 c h
theorem Sh.str {x : Str} (h : Chs x) : Sh 0 (10 * x.length + 2) (.str x) := by
  refine ⟨by simp only [PyData.showable], by simp only [PyData.hasDict], by simp [PyData.depth], ?_⟩
  simp only [PyData.shown]
  exact PySem.StrLaws.reprText_len x h
theorem it_len {i : Int} (h : Bd 1900 i) : ((toString i : String) : Str).length ≤ 1921 := PyProof.Rows.int_text_len_1921 (by have := h.log; omega)
theorem it_log {i : Int} (h : Bd 1900 i) : i.natAbs.log2 < 1920 := by have := h.log; omega
theorem sm_few {n : Nat} (h : n ≤ 1000000) : small62 (n : Int) = true := by
  simp only [small62, Bool.and_eq_true, decide_eq_true_eq]
  omega
end Wd
namespace Wd
open PySem
theorem i_rng {O : Orc} {a : E} {e e1 : DEnv} {z : Int} (h : ev O a e = .ok (.val (.d (.int z))) e1) (hm : small62 z = true) : evI O (.rng1 a) e = .ok (rangeD 0 z.toNat) e1 := by
  rw [x_irng1, h, R.bind_ok, x_res1, x_dd]
  show (if small62 z = true then R.ok (rangeD 0 z.toNat) e1 else .bad) = _
  rw [if_pos hm]
theorem i_len {O : Orc} {e : DEnv} {i : Nat} {rs : List PyData} (h : e[i]? = some (some (.d (.list rs)))) (hm : rs.length ≤ 1000000) : evI O (.rng1 (.blt .len (.cons (.var i) .nil))) e = .ok (rangeD 0 rs.length) e := by
  have e1 : ev O (.blt .len (.cons (.var i) .nil)) e = .ok (.val (.d (.int rs.length))) e := by
    simp only [x_blt, x_pcons, x_pnil, x_var, h, R.bind_ok, x_res1, x_res2, x_dd, x_lift, Option.map_some, o_lenl]
  exact i_rng e1 (sm_few hm)
end Wd
/-! plain law: the defs that every law has. -/
namespace Wd
open PySem
abbrev iD (i : Int) : Option DV := some (.d (.int i))
def fSame : FI := ⟨"_law_same", ["told", "due"], ["told", "due"], false,
  .cons (.ret (.cmp .eq (.blt .repr (.cons (.lst (.cons (.var 0) .nil)) .nil)) (.blt .repr (.cons (.lst (.cons (.var 1) .nil)) .nil)))) .nil⟩
def fStream : FI := ⟨"_law_stream", ["script"], ["script", "numbers", "cell", "rest", "k", "stirred"], false,
  .cons (.set 1 (.lst .nil)) (.cons (.fors (.name 2) (.data (.slc (.var 0) .no (.so (.int 63)))) (.cons (.set 3 (.blt .abs (.cons (.blt .int (.cons (.var 2) .nil)) .nil))) (.cons (.ifs (.cmp .ge (.var 3) (.bin .pow (.int 10) (.int 18))) (.cons (.fors (.name 4) (.rng1 (.int 60)) (.cons (.app 1 (.bin .mod (.blt .int (.cons (.var 3) .nil)) (.int 1009))) (.cons (.set 3 (.bin .fdiv (.var 3) (.int 1009))) (.cons (.ifs (.cmp .eq (.var 3) (.int 0)) (.cons (.brk) .nil) .nil) .nil)))) .nil) (.cons (.set 5 (.bin .mod (.blt .int (.cons (.var 3) .nil)) (.int 2147483647))) (.cons (.fors (.name 4) (.rng1 (.int 10)) (.cons (.set 5 (.bin .mod (.blt .int (.cons (.bin .add (.bin .add (.bin .mul (.var 5) (.int 48271)) (.bin .mul (.int 7) (.var 4))) (.int 11)) .nil)) (.int 2147483647))) (.cons (.app 1 (.bin .mod (.bin .mod (.blt .int (.cons (.bin .add (.bin .mul (.var 5) (.int 69621)) (.var 4)) .nil)) (.int 2147483629)) (.int 1009))) .nil))) .nil))) .nil))) (.cons (.ifs (.cmp .eq (.blt .len (.cons (.var 1) .nil)) (.int 0)) (.cons (.app 1 (.int 0)) .nil) .nil) (.cons (.ret (.var 1)) .nil)))⟩
def fNext : FI := ⟨"_law_next", ["state", "many"], ["state", "many", "turn"], true,
  .cons (.seti 0 (.int 1) (.bin .add (.idx (.var 0) (.int 1)) (.int 1))) (.cons (.set 2 (.bin .fdiv (.idx (.var 0) (.int 1)) (.blt .len (.cons (.idx (.var 0) (.int 0)) .nil)))) (.cons (.ret (.bin .mod (.blt .int (.cons (.bin .add (.bin .add (.idx (.idx (.var 0) (.int 0)) (.bin .mod (.idx (.var 0) (.int 1)) (.blt .len (.cons (.idx (.var 0) (.int 0)) .nil)))) (.bin .mul (.var 2) (.int 389))) (.bin .mul (.bin .mul (.idx (.var 0) (.int 1)) (.var 2)) (.int 17))) .nil)) (.var 1))) .nil))⟩
/-- the law's state: its numbers, how many were taken -/
abbrev St (L : List Int) (j : Int) : List PyData := [.list (L.map .int), .int j]
theorem ixn1 : L2.ixN 2 1 = some 1 := rfl
theorem c_next (m : Mo) (ix0 : Nat) (h0 : m.tb[ix0]? = some fNext) (n : Nat) (L : List Int) (j many : Int) (hL : L ≠ []) (hz : L.length ≤ 10000) (hj : 0 ≤ j) (hb : j < 1000000) (hm : 0 < many) : ∃ r, 0 ≤ r ∧ r < many ∧ m.cf (n + 1) ix0 [.own (St L j), .d (.int many)] = .ok (.d (.int r)) (some (St L (j + 1))) := by
  have hlen : 0 < L.length := List.length_pos_iff.mpr hL
  have hl0 : ¬ L = [] := hL
  obtain ⟨J, hJ⟩ : ∃ J : Nat, j + 1 = J := ⟨(j + 1).toNat, by omega⟩
  obtain ⟨v, hv⟩ : ∃ v, L[J % L.length]? = some v := ⟨_, List.getElem?_eq_getElem (Nat.mod_lt _ hlen)⟩
  have ix : L2.atI (L.map PyData.int) ((J : Int).fmod (L.length : Int)) = some (.int v) := by
    rw [fmod_nat, at_nat _ (by simpa using Nat.mod_lt _ hlen), List.getElem?_map, hv]
    rfl
  have bL : Bd 14 (L.length : Int) := Bd.of (by omega) (by omega)
  have dv : divOk (L.length : Int) = true := bL.divOk (by omega) (by omega)
  have bJ : Bd 20 (J : Int) := Bd.of (by omega) (by omega)
  have bT : Bd 20 ((J : Int).fdiv (L.length : Int)) := bJ.fdiv _
  have m1 : mulOk ((J : Int).fdiv (L.length : Int)) 389 = true := bT.mulOk (l := 20) (by unfold Bd; decide) (by omega)
  have m2 : mulOk (J : Int) ((J : Int).fdiv (L.length : Int)) = true := bJ.mulOk bT (by omega)
  have m3 : mulOk ((J : Int) * (J : Int).fdiv (L.length : Int)) 17 = true := (bJ.mul bT).mulOk (l := 20) (by unfold Bd; decide) (by omega)
  rw [cf_eq m n ix0 _ fNext h0]
  generalize hT : (J : Int).fdiv (L.length : Int) = t at *
  have hm0 : ¬ many = 0 := by omega
  refine ⟨(v + t * 389 + J * t * 17).fmod many, (fmod_range hm).1, (fmod_range hm).2, (runF_ret (v := .d (.int ((v + t * 389 + J * t * 17).fmod many))) (e0 := [some (.own (St L j)), iD many, none]) (e := [some (.own (St L (j + 1))), iD many, iD t]) rfl rfl rfl (run_cons (e1 := [some (.own (St L (j + 1))), iD many, none]) ?_ (run_cons (e1 := [some (.own (St L (j + 1))), iD many, iD t]) ?_ (run_ret ?_)))).trans rfl⟩
  · simp [ixn1]
  · rw [hJ]
    simp [dv, hT]
  · rw [hJ]
    simp [hl0, ix, m1, m2, m3, hm0]
theorem c_same (m : Mo) (ix0 : Nat) (h0 : m.tb[ix0]? = some fSame) (n : Nat) {x : PyData} {d z : Nat} (h : Sh d z x) (h1 : d ≤ 59) (h2 : z ≤ 16777000) : m.cf (n + 1) ix0 [.d x, .d x] = .ok (.d (.bool true)) none := by
  rw [cf_eq m n ix0 _ fSame h0]
  have ok := sh_one h h1 h2
  refine runF_one (v := .d (.bool true)) rfl rfl rfl rfl rfl ?_
  simp [ok]
abbrev iL (L : List Int) : Option DV := some (.own (L.map .int))
theorem app_int (L : List Int) (i : Int) : L.map PyData.int ++ [.int i] = (L ++ [i]).map .int := by simp
theorem pow18 : op2 .pow (.int 10) (.int 18) = some (.d (.int 1000000000000000000)) := by rfl
theorem pow6 : op2 .pow (.int 10) (.int 6) = some (.d (.int 1000000)) := by rfl
theorem dv1009 : divOk 1009 = true := by decide +kernel
theorem sm60 : small62 60 = true := by decide
theorem sm10 : small62 10 = true := by decide
theorem sm12 : small62 12 = true := by decide
theorem lt_sz {n : Nat} (h : n ≤ 10000) : n < sizeLine := by
  have : (10000 : Nat) < sizeLine := by decide
  omega
section
variable (m : Mo) (n : Nat)
abbrev Oc : Orc := { cf := m.cf n, glo := m.gl }
abbrev sA : Ss := .cons (.app 1 (.bin .mod (.blt .int (.cons (.var 3) .nil)) (.int 1009))) (.cons (.set 3 (.bin .fdiv (.var 3) (.int 1009))) (.cons (.ifs (.cmp .eq (.var 3) (.int 0)) (.cons (.brk) .nil) .nil) .nil))
abbrev sB : Ss := .cons (.set 5 (.bin .mod (.blt .int (.cons (.bin .add (.bin .add (.bin .mul (.var 5) (.int 48271)) (.bin .mul (.int 7) (.var 4))) (.int 11)) .nil)) (.int 2147483647))) (.cons (.app 1 (.bin .mod (.bin .mod (.blt .int (.cons (.bin .add (.bin .mul (.var 5) (.int 69621)) (.var 4)) .nil)) (.int 2147483629)) (.int 1009))) .nil)
theorem loopA (s c k t : Option DV) (L : List Int) (r : Int) (hl : L.length ≤ 9000) : ∃ L' k' r', exS (Oc m n) (.fors (.name 4) (.rng1 (.int 60)) sA) [s, iL L, c, iD r, k, t] = .ok .nx [s, iL L', c, iD r', k', t] ∧ L'.length ≤ L.length + 60 := by
  obtain ⟨e, h1, L', k', r', rfl, h2⟩ := forL_run (g := .name 4) (body := exSs (Oc m n) sA) (fun i e => ∃ (L' : List Int) (k' : Option DV) (r' : Int), e = [s, iL L', c, iD r', k', t] ∧ L'.length ≤ L.length + i) (fun e => ∃ (L' : List Int) (k' : Option DV) (r' : Int), e = [s, iL L', c, iD r', k', t] ∧ L'.length ≤ L.length + 60) (rangeD 0 60) 0 [s, iL L, c, iD r, k, t] ⟨L, k, r, rfl, by omega⟩ (fun i x e hx he => by
      obtain ⟨L', k', r', rfl, h2⟩ := he
      obtain ⟨hi, rfl⟩ := range_get hx
      have hz : L'.length < sizeLine := lt_sz (by omega)
      by_cases h0 : r'.fdiv 1009 = 0
      · refine ⟨[s, iL L', c, iD r', iD i, t], [s, iL (L' ++ [r'.fmod 1009]), c, iD (r'.fdiv 1009), iD i, t], .brk, rfl, ?_, .inr ⟨rfl, _, _, _, rfl, by rw [List.length_append]; simp; omega⟩⟩
        simp [hz, dv1009, h0]
      · refine ⟨[s, iL L', c, iD r', iD i, t], [s, iL (L' ++ [r'.fmod 1009]), c, iD (r'.fdiv 1009), iD i, t], .nx, rfl, ?_, .inl ⟨.inl rfl, _, _, _, rfl, by rw [List.length_append]; simp; omega⟩⟩
        simp [hz, dv1009, h0]) (fun e he => by
      obtain ⟨L', k', r', rfl, h2⟩ := he
      rw [range_len] at h2
      exact ⟨L', k', r', rfl, by omega⟩)
  refine ⟨L', k', r', ?_, h2⟩
  rw [x_fors]
  simp [sm60]
  exact h1
theorem loopB (s c k r : Option DV) (L : List Int) (t : Int) (hl : L.length ≤ 9000) (ht : Bd 32 t) : ∃ L' k' t', exS (Oc m n) (.fors (.name 4) (.rng1 (.int 10)) sB) [s, iL L, c, r, k, iD t] = .ok .nx [s, iL L', c, r, k', iD t'] ∧ L'.length ≤ L.length + 10 := by
  obtain ⟨e, h1, L', k', t', rfl, h2, _⟩ := forL_run (g := .name 4) (body := exSs (Oc m n) sB) (fun i e => ∃ (L' : List Int) (k' : Option DV) (t' : Int), e = [s, iL L', c, r, k', iD t'] ∧ L'.length ≤ L.length + i ∧ Bd 32 t') (fun e => ∃ (L' : List Int) (k' : Option DV) (t' : Int), e = [s, iL L', c, r, k', iD t'] ∧ L'.length ≤ L.length + 10 ∧ Bd 32 t') (rangeD 0 10) 0 [s, iL L, c, r, k, iD t] ⟨L, k, t, rfl, by omega, ht⟩ (fun i x e hx he => by
      obtain ⟨L', k', t', rfl, h2, h3⟩ := he
      obtain ⟨hi, rfl⟩ := range_get hx
      have hz : L'.length < sizeLine := lt_sz (by omega)
      have m1 : mulOk t' 48271 = true := h3.mulOk (l := 20) (by unfold Bd; decide) (by omega)
      have m2 : mulOk 7 (i : Int) = true := Bd.mulOk (k := 20) (l := 20) (by unfold Bd; decide) (Bd.of (by omega) (by omega)) (by omega)
      have b2 : Bd 32 ((t' * 48271 + 7 * (i : Int) + 11).fmod 2147483647) := bd_mod (by omega) (by omega)
      have m3 : mulOk ((t' * 48271 + 7 * (i : Int) + 11).fmod 2147483647) 69621 = true := b2.mulOk (l := 20) (by unfold Bd; decide) (by omega)
      generalize hg : (t' * 48271 + 7 * (i : Int) + 11).fmod 2147483647 = u at *
      refine ⟨[s, iL L', c, r, iD i, iD t'], [s, iL (L' ++ [((u * 69621 + i).fmod 2147483629).fmod 1009]), c, r, iD i, iD u], .nx, rfl, ?_, .inl ⟨.inl rfl, _, _, _, rfl, by rw [List.length_append]; simp; omega, b2⟩⟩
      simp [hz, m1, m2, m3, hg]) (fun e he => by
      obtain ⟨L', k', r', rfl, h2, h3⟩ := he
      rw [range_len] at h2
      exact ⟨L', k', r', rfl, by omega, h3⟩)
  refine ⟨L', k', t', ?_, h2⟩
  rw [x_fors]
  simp [sm10]
  exact h1
theorem c_stream (ix0 : Nat) (hx0 : m.tb[ix0]? = some fStream) (ns : List Int) (hn : ns.length ≤ 63) : ∃ L : List Int, L ≠ [] ∧ L.length ≤ 10000 ∧ m.cf (n + 1) ix0 [.d (.list (ns.map .int))] = .ok (.d (.list (L.map .int))) none := by
  rw [cf_eq m n ix0 _ fStream hx0]
  generalize hS : some (DV.d (.list (ns.map .int))) = s
  obtain ⟨e, h1, L, c, r, k, t, rfl, h2⟩ := forL_run (g := .name 2) (body := exSs (Oc m n) (.cons (.set 3 (.blt .abs (.cons (.blt .int (.cons (.var 2) .nil)) .nil))) (.cons (.ifs (.cmp .ge (.var 3) (.bin .pow (.int 10) (.int 18))) (.cons (.fors (.name 4) (.rng1 (.int 60)) sA) .nil) (.cons (.set 5 (.bin .mod (.blt .int (.cons (.var 3) .nil)) (.int 2147483647))) (.cons (.fors (.name 4) (.rng1 (.int 10)) sB) .nil))) .nil)))
      (fun i e => ∃ (L : List Int) (c r k t : Option DV), e = [s, iL L, c, r, k, t] ∧ L.length ≤ 60 * i) (fun e => ∃ (L : List Int) (c r k t : Option DV), e = [s, iL L, c, r, k, t] ∧ L.length ≤ 9000) (ns.map .int) 0 [s, iL [], none, none, none, none] ⟨[], none, none, none, none, rfl, by simp⟩ (fun i x e hx he => by
      obtain ⟨L, c, r, k, t, rfl, h2⟩ := he
      rw [List.getElem?_map, Option.map_eq_some_iff] at hx
      obtain ⟨z, hz, rfl⟩ := hx
      have hi : i < ns.length := (List.getElem?_eq_some_iff.mp hz).1
      by_cases hb : (1000000000000000000 : Int) ≤ (z.natAbs : Int)
      · obtain ⟨L', k', r', h3, h4⟩ := loopA m n s (iD z) k t L z.natAbs (by omega)
        refine ⟨[s, iL L, iD z, r, k, t], [s, iL L', iD z, iD r', k', t], .nx, rfl, ?_, .inl ⟨.inl rfl, _, _, _, _, _, rfl, by omega⟩⟩
        refine run_cons (e1 := [s, iL L, iD z, iD z.natAbs, k, t]) ?_ (run_cons (e1 := [s, iL L', iD z, iD r', k', t]) ?_ rfl)
        · simp [absE]
        · rw [x_ifs]
          simp only [x_tcmp, x_var, x_bin, x_int, R.bind_ok, x_res1, x_res2, x_dd, pow18, x_lift, o_ge, List.getElem?_cons_succ, List.getElem?_cons_zero, Option.bind_some, Option.map_some, decide_eq_true hb, if_true]
          exact run_cons h3 rfl
      · obtain ⟨L', k', t', h3, h4⟩ := loopB m n s (iD z) k (iD z.natAbs) L ((z.natAbs : Int).fmod 2147483647) (by omega) (bd_mod (by omega) (by omega))
        refine ⟨[s, iL L, iD z, r, k, t], [s, iL L', iD z, iD z.natAbs, k', iD t'], .nx, rfl, ?_, .inl ⟨.inl rfl, _, _, _, _, _, rfl, by omega⟩⟩
        refine run_cons (e1 := [s, iL L, iD z, iD z.natAbs, k, t]) ?_ (run_cons (e1 := [s, iL L', iD z, iD z.natAbs, k', iD t']) ?_ rfl)
        · simp [absE]
        · rw [x_ifs]
          simp only [x_tcmp, x_var, x_bin, x_int, R.bind_ok, x_res1, x_res2, x_dd, pow18, x_lift, o_ge, List.getElem?_cons_succ, List.getElem?_cons_zero, Option.bind_some, Option.map_some, decide_eq_false hb]
          refine run_cons (e1 := [s, iL L, iD z, iD z.natAbs, k, iD ((z.natAbs : Int).fmod 2147483647)]) ?_ (run_cons h3 rfl)
          simp) (fun e he => by
      obtain ⟨L, c, r, k, t, rfl, h2⟩ := he
      rw [List.length_map] at h2
      exact ⟨L, c, r, k, t, rfl, by omega⟩)
  have c1 : cutD (ns.map PyData.int) none (some 63) = ns.map .int := cut_all _ 63 (by rw [List.length_map]; exact hn)
  have st : exS (Oc m n) (.fors (.name 2) (.data (.slc (.var 0) .no (.so (.int 63)))) (.cons (.set 3 (.blt .abs (.cons (.blt .int (.cons (.var 2) .nil)) .nil))) (.cons (.ifs (.cmp .ge (.var 3) (.bin .pow (.int 10) (.int 18))) (.cons (.fors (.name 4) (.rng1 (.int 60)) sA) .nil) (.cons (.set 5 (.bin .mod (.blt .int (.cons (.var 3) .nil)) (.int 2147483647))) (.cons (.fors (.name 4) (.rng1 (.int 10)) sB) .nil))) .nil))) [s, iL [], none, none, none, none] = .ok .nx [s, iL L, c, r, k, t] := by
    rw [x_fors]
    subst hS
    simp [c1]
    exact h1
  by_cases h0 : L = []
  · refine ⟨[0], by simp, by simp, (runF_ret (v := .d (.list ([0].map .int))) (e0 := [s, none, none, none, none, none]) (e := [s, some (.d (.list ([0].map .int))), c, r, k, t]) rfl rfl (by rw [← hS]; rfl) (run_cons (e1 := [s, iL [], none, none, none, none]) ?_ (run_cons st (run_cons (e1 := [s, iL [0], c, r, k, t]) ?_ (run_ret ?_))))).trans rfl⟩
    · simp
    · have z : (0 : Nat) < sizeLine := by decide
      simp [h0, z]
    · simp
  · refine ⟨L, h0, by omega, (runF_ret (v := .d (.list (L.map .int))) (e0 := [s, none, none, none, none, none]) (e := [s, some (.d (.list (L.map .int))), c, r, k, t]) rfl rfl (by rw [← hS]; rfl) (run_cons (e1 := [s, iL [], none, none, none, none]) ?_ (run_cons st (run_cons (e1 := [s, iL L, c, r, k, t]) ?_ (run_ret ?_))))).trans rfl⟩
    · simp
    · simp [h0]
    · simp
end
/-- a number of the law's own drawing -/
theorem c_nextN (m : Mo) (ix0 : Nat) (h0 : m.tb[ix0]? = some fNext) (n : Nat) (L : List Int) (j many : Nat) (hL : L ≠ [] ∧ L.length ≤ 10000) (hb : j < 900000) (hm : 0 < many) : ∃ r : Nat, r < many ∧ m.cf (n + 1) ix0 [.own (St L j), .d (.int many)] = .ok (.d (.int r)) (some (St L ((j + 1 : Nat) : Int))) := by
  obtain ⟨r, h1, h2, h3⟩ := c_next m ix0 h0 n L j many hL.1 hL.2 (by omega) (by omega) (by omega)
  exact ⟨r.toNat, by omega, by rw [h3, show ((r.toNat : Nat) : Int) = r by omega]; rfl⟩
end Wd
namespace Wd
open PySem
theorem set_back {l : DEnv} {p : Nat} (h : p < l.length) : l.set p ((l[p]?).getD none) = l := by
  rw [List.getElem?_eq_getElem h]
  simp
/-- a comprehension whose parts tell of the item alone -/
theorem lc_fm {p : Nat} {tst : DEnv → R Bool} {elt : DEnv → R PyData} (q : PyData → Bool) (f : PyData → PyData) {e : DEnv} (hp : p < e.length) :
    ∀ (xs acc : List PyData), acc.length + xs.length < sizeLine → (∀ x ∈ xs, tst (e.set p (some (.d x))) = .ok (q x) (e.set p (some (.d x))) ∧ (q x = true → elt (e.set p (some (.d x))) = .ok (f x) (e.set p (some (.d x))))) →
    lcGo (.name p) [p] tst elt xs acc e = .ok (acc ++ (xs.filter q).map f) e
  | [], acc, _, _ => by simp [lcGo]
  | x :: xs, acc, hl, h => by
    obtain ⟨h1, h2⟩ := h x List.mem_cons_self
    have b : bindT (.name p) x (wipeD e [p]) = some (e.set p (some (.d x))) := by simp [wipeD, hp]
    have uw : unwipe e (e.set p (some (.d x))) [p] = e := by
      show (e.set p (some (.d x))).set p ((e[p]?).getD none) = e
      rw [List.set_set, set_back hp]
    rw [List.length_cons] at hl
    unfold lcGo
    rw [b]
    dsimp only
    rw [h1]
    cases hq : q x with
    | false =>
      show lcGo (.name p) [p] tst elt xs acc (unwipe e (e.set p (some (.d x))) [p]) = _
      rw [uw, lc_fm q f hp xs acc (by omega) fun y hy => h y (List.mem_cons_of_mem _ hy)]
      simp [hq]
    | true =>
      show ((noExc (elt (e.set p (some (.d x))))).bind fun y e3 => if acc.length < sizeLine then lcGo (.name p) [p] tst elt xs (acc ++ [y]) (unwipe e e3 [p]) else .bad) = _
      rw [h2 hq]
      show (if acc.length < sizeLine then lcGo (.name p) [p] tst elt xs (acc ++ [f x]) (unwipe e (e.set p (some (.d x))) [p]) else .bad) = _
      rw [if_pos (by omega), uw, lc_fm q f hp xs (acc ++ [f x]) (by rw [List.length_append]; simp; omega) fun y hy => h y (List.mem_cons_of_mem _ hy)]
      simp [hq]
theorem x_lcfm {O : Orc} {elt : E} {p : Nat} {it : I} {c : Ts} {e e1 : DEnv} {xs : List PyData} (q : PyData → Bool) (f : PyData → PyData) (h1 : evI O it e = .ok xs e1) (hn : noOwn e1 [p] = true) (hp : p < e1.length) (hl : xs.length < sizeLine)
    (he : ∀ x ∈ xs, evTs O c (e1.set p (some (.d x))) = .ok (q x) (e1.set p (some (.d x))) ∧ (q x = true → elF O elt (e1.set p (some (.d x))) = .ok (f x) (e1.set p (some (.d x))))) :
    ev O (.lc elt (.name p) it c [p]) e = .ok (.val (.own ((xs.filter q).map f))) e1 := by
  have z := lc_fm (tst := evTs O c) (elt := elF O elt) q f hp xs [] (by simpa using hl) he
  rw [List.nil_append] at z
  have e0 : ev O (.lc elt (.name p) it c [p]) e = (evI O it e).bind (fun xs e1 => if noOwn e1 [p] then (lcGo (.name p) [p] (evTs O c) (elF O elt) xs [] e1).bind fun ys e2 => R.ok (PV.val (DV.own ys)) e2 else .bad) := rfl
  rw [e0, h1, R.bind_ok, if_pos hn, z]
  rfl
/-- the same, without a test -/
theorem x_lcm {O : Orc} {elt : E} {p : Nat} {it : I} {e e1 : DEnv} {xs : List PyData} (f : PyData → PyData) (h1 : evI O it e = .ok xs e1) (hn : noOwn e1 [p] = true) (hp : p < e1.length) (hl : xs.length < sizeLine)
    (he : ∀ x ∈ xs, elF O elt (e1.set p (some (.d x))) = .ok (f x) (e1.set p (some (.d x)))) :
    ev O (.lc elt (.name p) it .nil [p]) e = .ok (.val (.own (xs.map f))) e1 := by
  have z := x_lcfm (c := .nil) (elt := elt) (p := p) (fun _ => true) f h1 hn hp hl fun x hx => ⟨rfl, fun _ => he x hx⟩
  rw [List.filter_eq_self.mpr fun _ _ => rfl] at z
  exact z
theorem at_last (xs : List PyData) (x : PyData) : L2.atI (xs ++ [x]) (-1) = some x := by
  unfold L2.atI L2.ixN
  rw [if_neg (by omega)]
  have e : (xs ++ [x]).length = xs.length + 1 := by simp
  rw [e, if_pos (by omega)]
  have e2 : (-1 + ((xs.length + 1 : Nat) : Int)).toNat = xs.length := by omega
  show (xs ++ [x])[(-1 + ((xs.length + 1 : Nat) : Int)).toNat]? = some x
  rw [e2]
  simp
theorem cut_to (xs : List PyData) (k : Nat) (h : k ≤ xs.length) : cutD xs none (some (k : Int)) = xs.take k := by
  unfold cutD
  rw [HT.sIx_nat, HT.sIx_none, Nat.min_eq_left h]
  simp
theorem cut_mid (xs : List PyData) (i j : Nat) (h : i ≤ j) (hj : j ≤ xs.length) : cutD xs (some (i : Int)) (some (j : Int)) = (xs.drop i).take (j - i) := by
  unfold cutD
  rw [HT.sIx_nat, HT.sIx_nat, Nat.min_eq_left hj, Nat.min_eq_left (by omega)]
theorem ints_map (xs : List Int) : intsD (xs.map .int) = some xs := by
  induction xs with
  | nil => rfl
  | cons x xs ih => simp [intsD, ih]
theorem bools_map {α : Type} (xs : List α) (f : α → Bool) : boolsD (xs.map fun x => .bool (f x)) = some (xs.map f) := by
  induction xs with
  | nil => rfl
  | cons x xs ih => simp [boolsD, ih]
theorem strs_map {α : Type} (xs : List α) (f : α → Str) : strsD (xs.map fun x => .str (f x)) = some (xs.map f) := by
  induction xs with
  | nil => rfl
  | cons x xs ih => simp [strsD, ih]
@[simp] theorem o_suml (xs : List PyData) : bltR .sum [.list xs] = (intsD xs).map fun ns => .d (.int ns.sum) := rfl
@[simp] theorem o_sumt (xs : List PyData) : bltR .sum [.tuple xs] = (intsD xs).map fun ns => .d (.int ns.sum) := rfl
@[simp] theorem o_alll (xs : List PyData) : bltR .all [.list xs] = (boolsD xs).map fun bs => .d (.bool (bs.all id)) := rfl
@[simp] theorem o_anyl (xs : List PyData) : bltR .any [.list xs] = (boolsD xs).map fun bs => .d (.bool (bs.any id)) := rfl
@[simp] theorem o_addt (xs ys : List PyData) : op2 .add (.tuple xs) (.tuple ys) = if xs.length + ys.length ≤ sizeLine then some (.d (.tuple (xs ++ ys))) else none := rfl
@[simp] theorem o_addl (xs ys : List PyData) : op2 .add (.list xs) (.list ys) = if xs.length + ys.length ≤ sizeLine then some (.own (xs ++ ys)) else none := rfl
@[simp] theorem o_slct (xs : List PyData) (lo hi : Option Int) : slcd (.tuple xs) lo hi = some (.d (.tuple (cutD xs lo hi))) := rfl
@[simp] theorem o_seql (xs : List PyData) : seqD (.list xs) = some xs := rfl
@[simp] theorem o_seqt (xs : List PyData) : seqD (.tuple xs) = some xs := rfl
theorem sz_of {n : Nat} (h : n ≤ 16000000) : n ≤ sizeLine := by
  have : (16000000 : Nat) ≤ sizeLine := by decide
  omega
theorem sz_lt {n : Nat} (h : n ≤ 16000000) : n < sizeLine := by
  have : (16000000 : Nat) < sizeLine := by decide
  omega
end Wd
namespace Wd
open PySem
@[simp] theorem x_chainV (O : Orc) (e : DEnv) (o p : Cm) (a b c : E) : ev O (.chain o p a b c) e = (ev O a e).bind fun pa e1 => (ev O b e1).bind fun pb e2 => (lift1 ((res pa e2).bind fun x => (res pb e2).bind fun y => cm2 o x y) e2).bind fun k e2 => if k then (ev O c e2).bind fun pc e3 => (lift1 ((res pb e3).bind fun y => (res pc e3).bind fun z => cm2 p y z) e3).bind fun k e4 => .ok (.val (.d (.bool k))) e4 else .ok (.val (.d (.bool false))) e2 := rfl
end Wd
namespace Wd
open PySem
theorem i_rngv {O : Orc} {a : E} {e e1 : DEnv} {p : PV} {z : Int} (h : ev O a e = .ok p e1) (hr : res p e1 = some (.int z)) (hm : small62 z = true) : evI O (.rng1 a) e = .ok (rangeD 0 z.toNat) e1 := by
  rw [x_irng1, h, R.bind_ok, hr]
  show (if small62 z = true then R.ok (rangeD 0 z.toNat) e1 else .bad) = _
  rw [if_pos hm]
end Wd
namespace Wd
open PySem
theorem c_nextJ (m : Mo) (ix0 : Nat) (h0 : m.tb[ix0]? = some fNext) (n : Nat) (L : List Int) (j : Nat) (many : Int) (hL : L ≠ [] ∧ L.length ≤ 10000) (hb : j < 900000) (hm : 0 < many) : ∃ r j1 : Nat, (r : Int) < many ∧ j1 = j + 1 ∧ m.cf (n + 1) ix0 [.own (St L j), .d (.int many)] = .ok (.d (.int r)) (some (St L j1)) := by
  obtain ⟨r, h1, h2, h3⟩ := c_next m ix0 h0 n L j many hL.1 hL.2 (by omega) (by omega) hm
  exact ⟨r.toNat, j + 1, by omega, rfl, by rw [h3, show ((r.toNat : Nat) : Int) = r by omega]; rfl⟩
end Wd
namespace Wd
open PySem
theorem x_rep (O : Orc) (e : DEnv) (a b : E) : ev O (.rep a b) e = (ev O a e).bind fun pa e1 => (ev O b e1).bind fun pb e2 => match pa, res pb e2 with
    | .val (.own xs), some (.int k) => if -(2 ^ 63) ≤ k ∧ k < 2 ^ 63 ∧ xs.length * k.toNat ≤ sizeLine then .ok (.val (.own (List.replicate k.toNat xs).flatten)) e2 else .bad
    | _, _ => .bad := rfl
end Wd
namespace Wd
open PySem
theorem told_ok {nm : List Str} {e e1 : DEnv} {v : DV} : toldR nm e (.ok (.val v) e1) = .ok (.val (.d (.tuple [.str "told", v.data]))) e := rfl
theorem told_exc {nm : List Str} {e : DEnv} {k : Nat} {t : Str} (h : nm[k]? = some t) : toldR nm e (.exc k) = .ok (.val (.d (.tuple [.str t]))) e := by
  simp [toldR, h]
theorem seal_d {e : DEnv} {i : Nat} {x : PyData} (h : e[i]? = some (some (.d x))) : (sealD e)[i]? = some (some (.d x)) := by
  unfold sealD
  rw [List.getElem?_map, h]
  rfl
/-- _law_told(lambda: f(x)) -/
theorem e_told1 {O : Orc} {nm : List Str} {e : DEnv} {f i : Nat} {x : PyData} {v : DV} (h : e[i]? = some (some (.d x))) (hc : O.cf f [.d x] = .ok v none) : ev O (.told nm (.call f (.cons (.var i) .nil))) e = .ok (.val (.d (.tuple [.str "told", v.data]))) e := by
  have h2 := seal_d h
  have e1 : ev O (.call f (.cons (.var i) .nil)) (sealD e) = .ok (.val v) (sealD e) := by simp [h2, hc]
  rw [x_told, e1, told_ok]
theorem e_told1x {O : Orc} {nm : List Str} {e : DEnv} {f i k : Nat} {x : PyData} {t : Str} (h : e[i]? = some (some (.d x))) (hc : O.cf f [.d x] = .exc k) (hn : nm[k]? = some t) : ev O (.told nm (.call f (.cons (.var i) .nil))) e = .ok (.val (.d (.tuple [.str t]))) e := by
  have h2 := seal_d h
  have e1 : ev O (.call f (.cons (.var i) .nil)) (sealD e) = .exc k := by simp [h2, hc]
  rw [x_told, e1, told_exc hn]
end Wd
namespace Wd
open PySem
@[simp] theorem x_extS (O : Orc) (e : DEnv) (i : Nat) (c : E) : exS O (.ext i c) e = (match e[i]? with
    | some (some (.own _)) => (ev O c e).bind fun p e1 => (match p with
      | .val (.own ys) => (match e1[i]? with
        | some (some (.own xs)) => if xs.length + ys.length ≤ sizeLine then .ok .nx (e1.set i (some (.own (xs ++ ys)))) else .bad
        | _ => .bad)
      | _ => .bad)
    | _ => .bad) := rfl
end Wd
namespace Wd
open PySem
theorem q_rep {O : Orc} {a b : E} {e e1 e2 : DEnv} {xs : List PyData} {p : PV} {k : Int} (ha : ev O a e = .ok (.val (.own xs)) e1) (hb : ev O b e1 = .ok p e2) (hr : res p e2 = some (.int k)) (hk : -(2 ^ 63) ≤ k ∧ k < 2 ^ 63 ∧ xs.length * k.toNat ≤ sizeLine) : ev O (.rep a b) e = .ok (.val (.own (List.replicate k.toNat xs).flatten)) e2 := by
  rw [x_rep, ha, R.bind_ok, hb, R.bind_ok, hr]
  exact if_pos hk
end Wd
namespace Wd
open PySem
theorem q_cat {O : Orc} {a b : E} {e e1 e2 : DEnv} {xs ys : List PyData} (ha : ev O a e = .ok (.val (.own xs)) e1) (hb : ev O b e1 = .ok (.val (.own ys)) e2) (hz : xs.length + ys.length ≤ sizeLine) : ev O (.bin .add a b) e = .ok (.val (.own (xs ++ ys))) e2 := by
  rw [x_bin, ha, R.bind_ok, hb, R.bind_ok]
  show lift1 ((op2 .add (.list xs) (.list ys)).map PV.val) e2 = _
  rw [o_addl, if_pos hz]
  rfl
theorem q_set {O : Orc} {a : E} {e e1 : DEnv} {v : DV} {i : Nat} (ha : ev O a e = .ok (.val v) e1) (hi : i < e1.length) : exS O (.set i a) e = .ok .nx (e1.set i (some v)) := by
  rw [x_set, ha]
  exact if_pos hi
end Wd
/-! plain law 2: statements over any environment. -/
namespace Wd
open PySem
section
variable {O : Orc} {e e1 : DEnv}
theorem v_slot {i : Nat} {v : DV} (h : e[i]? = some (some v)) : ev O (.var i) e = .ok (.slot i) e := by rw [x_var, h]
theorem r_slot {i : Nat} {v : DV} (h : e[i]? = some (some v)) : res (.slot i) e = some v.data := by rw [x_res2, h]
theorem d_nil : evDs O .nil e = .ok [] e := rfl
theorem d_val {a : E} {es : Es} {v : DV} {xs : List PyData} (ha : ev O a e = .ok (.val v) e) (hs : evDs O es e = .ok xs e1) : evDs O (.cons a es) e = .ok (v.data :: xs) e1 := by
  rw [x_dcons, ha, R.bind_ok, x_frz1]
  dsimp only
  rw [hs, R.bind_ok]
theorem d_var {i : Nat} {x : PyData} {es : Es} {xs : List PyData} (h : e[i]? = some (some (.d x))) (hs : evDs O es e = .ok xs e1) : evDs O (.cons (.var i) es) e = .ok (x :: xs) e1 := by
  rw [x_dcons, v_slot h, R.bind_ok, x_frz2, h]
  dsimp only
  rw [hs, R.bind_ok]
theorem d_own {i : Nat} {X : List PyData} {es : Es} {xs : List PyData} (h : e[i]? = some (some (.own X))) (hs : evDs O es (e.set i (some (.d (.list X)))) = .ok xs e1) : evDs O (.cons (.var i) es) e = .ok (.list X :: xs) e1 := by
  rw [x_dcons, v_slot h, R.bind_ok, x_frz2, h]
  dsimp only
  rw [hs, R.bind_ok]
theorem c_val {f : Nat} {es : Es} {xs : List PyData} {v : DV} (hs : evDs O es e = .ok xs e1) (hc : O.cf f (xs.map .d) = .ok v none) : ev O (.call f es) e = .ok (.val v) e1 := by
  rw [x_call, hs, R.bind_ok, hc]
theorem c_exc {f : Nat} {es : Es} {xs : List PyData} {k : Nat} (hs : evDs O es e = .ok xs e1) (hc : O.cf f (xs.map .d) = .exc k) : ev O (.call f es) e = .exc k := by
  rw [x_call, hs, R.bind_ok, hc]
theorem t_val {nm : List Str} {f : Nat} {es : Es} {xs : List PyData} {v : DV} (hs : evDs O es (sealD e) = .ok xs (sealD e)) (hc : O.cf f (xs.map .d) = .ok v none) : ev O (.told nm (.call f es)) e = .ok (.val (.d (.tuple [.str "told", v.data]))) e := by
  rw [x_told, c_val hs hc, told_ok]
theorem t_exc {nm : List Str} {f : Nat} {es : Es} {xs : List PyData} {k : Nat} {t : Str} (hs : evDs O es (sealD e) = .ok xs (sealD e)) (hc : O.cf f (xs.map .d) = .exc k) (hn : nm[k]? = some t) : ev O (.told nm (.call f es)) e = .ok (.val (.d (.tuple [.str t]))) e := by
  rw [x_told, c_exc hs hc, told_exc hn]
theorem l_val {es : Es} {xs : List PyData} (hs : evDs O es e = .ok xs e1) (hz : xs.length ≤ 100000) : ev O (.lst es) e = .ok (.val (.own xs)) e1 := by
  rw [x_lst, hs, R.bind_ok, if_pos (sz_of (by omega))]
theorem u_val {es : Es} {xs : List PyData} (hs : evDs O es e = .ok xs e1) (hz : xs.length ≤ 100000) : ev O (.tup es) e = .ok (.val (.d (.tuple xs))) e1 := by
  rw [x_tup, hs, R.bind_ok, if_pos (sz_of (by omega))]
/-- ("told", a) -/
theorem u_told {a : E} {v : DV} (ha : ev O a e = .ok (.val v) e) : ev O (.tup (.cons (.str "told") (.cons a .nil))) e = .ok (.val (.d (.tuple [.str "told", v.data]))) e :=
  u_val (d_val (v := .d (.str "told")) (x_str _ _ _) (d_val ha d_nil)) (by simp)
theorem u_toldv {i : Nat} {x : PyData} (h : e[i]? = some (some (.d x))) : ev O (.tup (.cons (.str "told") (.cons (.var i) .nil))) e = .ok (.val (.d (.tuple [.str "told", x]))) e :=
  u_val (d_val (v := .d (.str "told")) (x_str _ _ _) (d_var h d_nil)) (by simp)
theorem len_var {i : Nat} {X : List PyData} (h : e[i]? = some (some (.d (.list X)))) : ev O (.blt .len (.cons (.var i) .nil)) e = .ok (.val (.d (.int X.length))) e := by
  simp [h]
theorem len_val {a : E} {X : List PyData} (h : ev O a e = .ok (.val (.own X)) e) : ev O (.blt .len (.cons a .nil)) e = .ok (.val (.d (.int X.length))) e := by
  simp [h]
/-- told and due alike: on -/
theorem s_same {f : Nat} {es : Es} {x y : PyData} {a : Ss} (hs : evDs O es e = .ok [x, y] e1) (hc : O.cf f [.d x, .d y] = .ok (.d (.bool true)) none) : exS O (.ifs (.nott (.tru (.call f es))) a .nil) e = .ok .nx e1 := by
  have h := c_val hs hc
  simp [h, -x_call]
/-- the next number, for a name -/
theorem s_next {f i : Nat} {a : E} {k : Int} {v : DV} {S1 S2 : List PyData} (ha : ev O a e = .ok (.val (.d (.int k))) e) (h1 : e[1]? = some (some (.own S1))) (hc : O.cf f [.own S1, .d (.int k)] = .ok v (some S2)) (hi : i < e.length) : exS O (.set i (.callm f 1 (.cons a .nil))) e = .ok .nx ((e.set 1 (some (.own S2))).set i (some v)) := by
  have e0 : ev O (.callm f 1 (.cons a .nil)) e = .ok (.val v) (e.set 1 (some (.own S2))) := by simp [h1, ha, hc]
  exact q_set e0 (by rw [List.length_set]; exact hi)
theorem v_next {f : Nat} {a : E} {k : Int} {v : DV} {S1 S2 : List PyData} (ha : ev O a e = .ok (.val (.d (.int k))) e) (h1 : e[1]? = some (some (.own S1))) (hc : O.cf f [.own S1, .d (.int k)] = .ok v (some S2)) : ev O (.callm f 1 (.cons a .nil)) e = .ok (.val v) (e.set 1 (some (.own S2))) := by
  simp [h1, ha, hc]
end
end Wd
/-! k04, plain: numbers of choices, mountains by place. -/
namespace K04
/-- binomial numbers -/
def ch : Nat → Nat → Nat
  | _, 0 => 1
  | 0, _ + 1 => 0
  | n + 1, k + 1 => ch n k + ch n (k + 1)
theorem ch0 (n : Nat) : ch n 0 = 1 := by cases n <;> rfl
theorem ch_succ (n k : Nat) : ch (n + 1) (k + 1) = ch n k + ch n (k + 1) := rfl
theorem ch_big : ∀ (n k : Nat), n < k → ch n k = 0
  | 0, k + 1, _ => rfl
  | n + 1, k + 1, h => by rw [ch_succ, ch_big n k (by omega), ch_big n (k + 1) (by omega)]
theorem ch_self : ∀ n : Nat, ch n n = 1
  | 0 => rfl
  | n + 1 => by rw [ch_succ, ch_self n, ch_big n (n + 1) (by omega)]
/-- (k + 1) C(n, k + 1) = (n - k) C(n, k) -/
theorem ch_abs : ∀ (n k : Nat), k ≤ n → (k + 1) * ch n (k + 1) = (n - k) * ch n k
  | 0, k, h => by
    have : k = 0 := by omega
    subst this
    rfl
  | n + 1, 0, h => by
    have ih := ch_abs n 0 (by omega)
    rw [ch_succ, ch0, ch0] at *
    omega
  | n + 1, k + 1, h => by
    have h1 := ch_abs n k (by omega)
    rw [ch_succ n (k + 1), ch_succ n k, Nat.mul_add, show n + 1 - (k + 1) = n - k by omega]
    rcases Nat.lt_or_ge k n with h0 | h0
    · have h2 := ch_abs n (k + 1) (by omega)
      have e : n - k = (n - (k + 1)) + 1 := by omega
      rw [Nat.mul_add, show (k + 1 + 1) * ch n (k + 1 + 1) = (n - (k + 1)) * ch n (k + 1) from h2, show (k + 1 + 1) * ch n (k + 1) = (k + 1) * ch n (k + 1) + ch n (k + 1) by rw [Nat.add_mul]; omega, h1, e, Nat.add_mul, Nat.add_mul]
      omega
    · have e : k = n := by omega
      subst e
      rw [ch_big k (k + 1) (by omega), ch_big k (k + 1 + 1) (by omega), Nat.sub_self, Nat.zero_mul, Nat.mul_zero]
theorem ch_sym : ∀ (n k : Nat), k ≤ n → ch n k = ch n (n - k)
  | n, 0, _ => by rw [ch0, Nat.sub_zero, ch_self]
  | 0, k + 1, h => by omega
  | n + 1, k + 1, h => by
    rcases Nat.lt_or_ge k n with h0 | h0
    · have h1 := ch_sym n k (by omega)
      have h2 := ch_sym n (k + 1) (by omega)
      rw [ch_succ, h1, h2, show n + 1 - (k + 1) = (n - (k + 1)) + 1 by omega, ch_succ, show n - (k + 1) + 1 = n - k by omega]
      omega
    · have e : k = n := by omega
      subst e
      rw [ch_self, Nat.sub_self, ch0]
theorem ch_le : ∀ (n k : Nat), ch n k ≤ 2 ^ n
  | n, 0 => by rw [ch0]; exact Nat.one_le_two_pow
  | 0, k + 1 => by show 0 ≤ _; omega
  | n + 1, k + 1 => by
    have h1 := ch_le n k
    have h2 := ch_le n (k + 1)
    rw [ch_succ, Nat.pow_succ]
    omega
theorem ch_pos : ∀ (n k : Nat), k ≤ n → 0 < ch n k
  | n, 0, _ => by rw [ch0]; omega
  | 0, k + 1, h => by omega
  | n + 1, k + 1, h => by
    have := ch_pos n k (by omega)
    rw [ch_succ]
    omega
/-- the loop of a choose -/
def lp (n : Nat) : Nat → Nat
  | 0 => 1
  | i + 1 => lp n i * (n - i) / (i + 1)
theorem lp_eq (n : Nat) : ∀ k, k ≤ n → lp n k = ch n k
  | 0, _ => by rw [ch0]; rfl
  | k + 1, h => by
    show lp n k * (n - k) / (k + 1) = _
    rw [lp_eq n k (by omega), Nat.mul_comm, ← ch_abs n k (by omega), Nat.mul_div_cancel_left _ (by omega)]
theorem ch_fast (n k : Nat) : ch n k = if k ≤ n then lp n (min k (n - k)) else 0 := by
  split
  · rename_i h
    rcases Nat.le_total k (n - k) with h1 | h1
    · rw [Nat.min_eq_left h1, lp_eq n k h]
    · rw [Nat.min_eq_right h1, lp_eq n (n - k) (by omega), ← ch_sym n k h]
  · exact ch_big n k (by omega)
/-- with any whole number below -/
def chI (n : Nat) : Int → Int
  | .ofNat k => ch n k
  | .negSucc _ => 0
theorem chI_nat (n k : Nat) : chI n (k : Int) = ch n k := rfl
theorem chI_neg (n : Nat) {k : Int} (h : k < 0) : chI n k = 0 := by
  cases k with
  | ofNat k => exact absurd h (by simp)
  | negSucc k => rfl
theorem chI_big (n : Nat) {k : Int} (h : (n : Int) < k) : chI n k = 0 := by
  cases k with
  | ofNat k =>
    show ((ch n k : Nat) : Int) = 0
    rw [ch_big n k (by simp at h; omega)]
    rfl
  | negSucc k => rfl
theorem chI_succ (n : Nat) (k : Int) : chI (n + 1) k = chI n (k - 1) + chI n k := by
  cases k with
  | negSucc k =>
    rw [chI_neg n (k := .negSucc k - 1) (by omega)]
    rfl
  | ofNat k =>
    cases k with
    | zero =>
      show ((ch (n + 1) 0 : Nat) : Int) = chI n (-1) + ((ch n 0 : Nat) : Int)
      rw [ch0, ch0]
      rfl
    | succ k =>
      have e : (Int.ofNat (k + 1) - 1) = (k : Int) := by simp
      rw [e, chI_nat]
      show ((ch (n + 1) (k + 1) : Nat) : Int) = _ + ((ch n (k + 1) : Nat) : Int)
      rw [ch_succ]
      omega
/-- how many go on with so many steps up and down -/
def bal (u d : Int) : Int := chI (u + d).toNat u - chI (u + d).toNat (u - 1)
theorem bal_step {u d : Int} (hu : 0 ≤ u) (hd : 1 ≤ d) (h : 1 ≤ u + d) : bal u d = (if 0 < u then bal (u - 1) d else 0) + bal u (d - 1) := by
  obtain ⟨m, hm⟩ : ∃ m : Nat, (u + d).toNat = m + 1 := ⟨(u + d).toNat - 1, by omega⟩
  have e1 : (u - 1 + d).toNat = m := by omega
  have e2 : (u + (d - 1)).toNat = m := by omega
  unfold bal
  rw [hm, e1, e2, chI_succ, chI_succ]
  split
  · omega
  · rw [chI_neg m (k := u - 1) (by omega), chI_neg m (k := u - 1 - 1) (by omega)]
    omega
theorem bal_under {u : Int} (hu : 1 ≤ u) : bal u (u - 1) = 0 := by
  obtain ⟨k, rfl⟩ : ∃ k : Nat, u = ((k + 1 : Nat) : Int) := ⟨(u - 1).toNat, by omega⟩
  unfold bal
  have e : (((k + 1 : Nat) : Int) + (((k + 1 : Nat) : Int) - 1)).toNat = 2 * k + 1 := by omega
  have e2 : (((k + 1 : Nat) : Int) - 1) = (k : Int) := by omega
  rw [e, e2, chI_nat, chI_nat, ch_sym (2 * k + 1) (k + 1) (by omega), show 2 * k + 1 - (k + 1) = k by omega]
  omega
theorem bal_zero {d : Int} (hd : 0 ≤ d) : bal 0 d = 1 := by
  unfold bal
  rw [chI_neg _ (k := 0 - 1) (by omega)]
  show ((ch _ 0 : Nat) : Int) - 0 = 1
  rw [ch0]
  rfl
theorem bal_cat (n : Nat) : bal n n = ((ch (2 * n) n / (n + 1) : Nat) : Int) := by
  unfold bal
  have e : ((n : Int) + n).toNat = 2 * n := by omega
  rw [e, chI_nat]
  cases n with
  | zero => rfl
  | succ k =>
    have e2 : (((k + 1 : Nat) : Int) - 1) = (k : Int) := by omega
    rw [e2, chI_nat]
    have h := ch_abs (2 * (k + 1)) k (by omega)
    rw [show 2 * (k + 1) - k = k + 1 + 1 by omega] at h
    have h2 : ch (2 * (k + 1)) k ≤ ch (2 * (k + 1)) (k + 1) := by
      have : (k + 1) * ch (2 * (k + 1)) (k + 1) = (k + 1) * ch (2 * (k + 1)) k + ch (2 * (k + 1)) k := by rw [h, Nat.add_mul]; omega
      have : (k + 1) * ch (2 * (k + 1)) k ≤ (k + 1) * ch (2 * (k + 1)) (k + 1) := by omega
      exact Nat.le_of_mul_le_mul_left this (by omega)
    have h3 : ch (2 * (k + 1)) (k + 1) = (k + 1 + 1) * (ch (2 * (k + 1)) (k + 1) - ch (2 * (k + 1)) k) := by
      rw [Nat.mul_sub, ← h, Nat.add_mul (k + 1) 1]
      omega
    have h4 : ch (2 * (k + 1)) (k + 1) / (k + 1 + 1) = ch (2 * (k + 1)) (k + 1) - ch (2 * (k + 1)) k := by
      conv => lhs; rw [h3]
      exact Nat.mul_div_cancel_left _ (by omega)
    rw [h4]
    omega
/-- how many are ahead of those that go on with a step down -/
def ah (u d : Int) : Int := if 0 < u then bal (u - 1) d else 0
/-- the mountain at a place, from so many steps up and down on; how many are ahead of one -/
def un : Nat → Int → Int → Int → List Bool
  | 0, _, _, _ => []
  | m + 1, u, d, p => if p < ah u d then true :: un m (u - 1) d p else false :: un m u (d - 1) (p - ah u d)
def rk : Int → Int → List Bool → Int
  | _, _, [] => 0
  | u, d, true :: w => rk (u - 1) d w
  | u, d, false :: w => ah u d + rk u (d - 1) w
/-- never below the ground, at last upon it -/
def gd : Int → List Bool → Bool
  | h, [] => decide (h = 0)
  | h, true :: w => decide (0 ≤ h) && gd (h + 1) w
  | h, false :: w => decide (0 ≤ h) && gd (h - 1) w
theorem un_ok : ∀ (m : Nat) (u d p : Int), u + d = m → 0 ≤ u → u ≤ d → 0 ≤ p → p < bal u d → rk u d (un m u d p) = p ∧ gd (d - u) (un m u d p) = true ∧ (un m u d p).length = m
  | 0, u, d, p, hm, hu, hd, hp, hb => by
    have e1 : u = 0 := by omega
    have e2 : d = 0 := by omega
    subst e1 e2
    rw [bal_zero (by omega)] at hb
    have : p = 0 := by omega
    subst this
    exact ⟨rfl, rfl, rfl⟩
  | m + 1, u, d, p, hm, hu, hd, hp, hb => by
    have st : bal u d = ah u d + bal u (d - 1) := bal_step (u := u) (d := d) hu (by omega) (by omega)
    have g0 : decide (0 ≤ d - u) = true := decide_eq_true (by omega)
    unfold un
    split
    · rename_i h
      have u0 : 0 < u := by
        by_cases u0 : 0 < u
        · exact u0
        · unfold ah at h
          rw [if_neg u0] at h
          omega
      have h' : p < bal (u - 1) d := by
        unfold ah at h
        rw [if_pos u0] at h
        exact h
      obtain ⟨h1, h2, h3⟩ := un_ok m (u - 1) d p (by omega) (by omega) (by omega) hp h'
      refine ⟨by rw [rk]; exact h1, ?_, by rw [List.length_cons, h3]⟩
      rw [gd, g0, show d - u + 1 = d - (u - 1) by omega, h2]
      rfl
    · rename_i h
      have ud : u ≤ d - 1 := by
        rcases Int.lt_or_le u d with h0 | h0
        · omega
        · exfalso
          have e : d = u := by omega
          subst e
          have := bal_under (u := d) (by omega)
          omega
      obtain ⟨h1, h2, h3⟩ := un_ok m u (d - 1) (p - ah u d) (by omega) hu ud (by omega) (by omega)
      refine ⟨by rw [rk, h1]; omega, ?_, by rw [List.length_cons, h3]⟩
      rw [gd, g0, show d - u - 1 = d - 1 - u by omega, h2]
      rfl
end K04
namespace K04
theorem un_cases {u d p : Int} {m : Nat} (hm : u + d = ((m + 1 : Nat) : Int)) (hu : 0 ≤ u) (hd : u ≤ d) (hp : 0 ≤ p) (hb : p < bal u d) : (p < ah u d → 0 < u ∧ p < bal (u - 1) d) ∧ (¬ p < ah u d → u ≤ d - 1 ∧ 0 ≤ p - ah u d ∧ p - ah u d < bal u (d - 1)) := by
  have st : bal u d = ah u d + bal u (d - 1) := bal_step (u := u) (d := d) hu (by omega) (by omega)
  constructor
  · intro h
    have u0 : 0 < u := by
      by_cases u0 : 0 < u
      · exact u0
      · unfold ah at h
        rw [if_neg u0] at h
        omega
    unfold ah at h
    rw [if_pos u0] at h
    exact ⟨u0, h⟩
  · intro h
    have ud : u ≤ d - 1 := by
      rcases Int.lt_or_le u d with h0 | h0
      · omega
      · exfalso
        have e : d = u := by omega
        subst e
        have := bal_under (u := d) (by omega)
        omega
    exact ⟨ud, by omega, by omega⟩
end K04
/-! k04: the law's text, compact; the checks. -/
namespace K04
open PySem L2 PyProof.Rows PySem.Spec Wd
def top (i : Nat) : Stmt := PySem.Challenge.pw_wayscounted_k04_whole_mountains.main.body.getD i (.Pass ⟨0, 0, 0, 0⟩)
def tnm : List Str := ["refused", "large", "missing"]
/-- choose -/
def f_choose : FI := ⟨"choose", ["many", "few"], ["many", "few", "found", "at"], false,
  .cons (.ifs (.ors (.cons (.cmp .lt (.var 1) (.int 0)) (.cons (.cmp .gt (.var 1) (.var 0)) .nil))) (.cons (.ret (.int 0)) .nil) .nil) (.cons (.set 2 (.int 1)) (.cons (.fors (.name 3) (.rng1 (.blt .min (.cons (.var 1) (.cons (.bin .sub (.var 0) (.var 1)) .nil)))) (.cons (.set 2 (.bin .fdiv (.bin .mul (.var 2) (.bin .sub (.var 0) (.var 3))) (.bin .add (.var 3) (.int 1)))) .nil)) (.cons (.ret (.var 2)) .nil)))⟩
/-- check_half -/
def f_check_half : FI := ⟨"check_half", ["many"], ["many"], false,
  .cons (.ifs (.nott (.chain .le .le (.int 0) (.var 0) (.glo 0))) (.cons (.rais 0) .nil) .nil) .nil⟩
/-- check_text -/
def f_check_text : FI := ⟨"check_text", ["text"], ["text", "letter"], false,
  .cons (.ifs (.ors (.cons (.cmp .gt (.blt .len (.cons (.var 0) .nil)) (.bin .mul (.int 2) (.glo 0))) (.cons (.nott (.tru (.blt .all (.cons (.lc (.cmp .isin (.var 1) (.tup (.cons (.str "u") (.cons (.str "d") .nil)))) (.name 1) (.data (.var 0)) .nil [1]) .nil)))) .nil))) (.cons (.rais 0) .nil) .nil) .nil⟩
/-- levels -/
def f_levels : FI := ⟨"levels", ["text"], ["text", "found", "letter"], false,
  .cons (.set 1 (.lst (.cons (.int 0) .nil))) (.cons (.fors (.name 2) (.data (.var 0)) (.cons (.app 1 (.bin .add (.idx (.var 1) (.neg (.int 1))) (.ife (.cmp .eq (.var 2) (.str "u")) (.int 1) (.neg (.int 1))))) .nil)) (.cons (.ret (.var 1)) .nil))⟩
/-- is_mountain -/
def f_is_mountain : FI := ⟨"is_mountain", ["text"], ["text", "rows"], false,
  .cons (.expr (.call 2 (.cons (.var 0) .nil))) (.cons (.set 1 (.call 3 (.cons (.var 0) .nil))) (.cons (.ret (.ands (.cons (.cmp .ge (.blt .min (.cons (.var 1) .nil)) (.int 0)) (.cons (.cmp .eq (.idx (.var 1) (.neg (.int 1))) (.int 0)) .nil)))) .nil))⟩
/-- check_mountain -/
def f_check_mountain : FI := ⟨"check_mountain", ["text"], ["text"], false,
  .cons (.ifs (.nott (.tru (.call 4 (.cons (.var 0) .nil)))) (.cons (.rais 0) .nil) .nil) .nil⟩
/-- count -/
def f_count : FI := ⟨"count", ["many"], ["many"], false,
  .cons (.expr (.call 1 (.cons (.var 0) .nil))) (.cons (.ret (.bin .fdiv (.call 0 (.cons (.bin .mul (.int 2) (.var 0)) (.cons (.var 0) .nil))) (.bin .add (.var 0) (.int 1)))) .nil)⟩
/-- ends -/
def f_ends : FI := ⟨"ends", ["up", "down"], ["up", "down"], false,
  .cons (.ret (.bin .sub (.call 0 (.cons (.bin .add (.var 0) (.var 1)) (.cons (.var 0) .nil))) (.call 0 (.cons (.bin .add (.var 0) (.var 1)) (.cons (.bin .sub (.var 0) (.int 1)) .nil))))) .nil⟩
/-- all_mountains -/
def f_all_mountains : FI := ⟨"all_mountains", ["many"], ["many", "rows", "_", "fresh", "text", "up", "down"], false,
  .cons (.expr (.call 1 (.cons (.var 0) .nil))) (.cons (.ifs (.cmp .gt (.var 0) (.glo 1)) (.cons (.rais 1) .nil) .nil) (.cons (.set 1 (.lst (.cons (.tup (.cons (.str "") (.cons (.int 0) (.cons (.int 0) .nil)))) .nil))) (.cons (.fors (.name 2) (.rng1 (.bin .mul (.int 2) (.var 0))) (.cons (.set 3 (.lst .nil)) (.cons (.fors (.tup (.cons (.name 4) (.cons (.name 5) (.cons (.name 6) .nil)))) (.data (.var 1)) (.cons (.ifs (.cmp .lt (.var 5) (.var 0)) (.cons (.app 3 (.tup (.cons (.bin .add (.var 4) (.str "u")) (.cons (.bin .add (.var 5) (.int 1)) (.cons (.var 6) .nil))))) .nil) .nil) (.cons (.ifs (.cmp .lt (.var 6) (.var 5)) (.cons (.app 3 (.tup (.cons (.bin .add (.var 4) (.str "d")) (.cons (.var 5) (.cons (.bin .add (.var 6) (.int 1)) .nil))))) .nil) .nil) .nil))) (.cons (.set 1 (.var 3)) .nil)))) (.cons (.ret (.lc (.var 4) (.tup (.cons (.name 4) (.cons (.name 2) (.cons (.name 2) .nil)))) (.data (.var 1)) .nil [4, 2])) .nil))))⟩
/-- place_of -/
def f_place_of : FI := ⟨"place_of", ["text"], ["text", "up", "down", "found", "letter"], false,
  .cons (.expr (.call 5 (.cons (.var 0) .nil))) (.cons (.par [1, 2, 3] (.cons (.bin .fdiv (.blt .len (.cons (.var 0) .nil)) (.int 2)) (.cons (.bin .fdiv (.blt .len (.cons (.var 0) .nil)) (.int 2)) (.cons (.int 0) .nil)))) (.cons (.fors (.name 4) (.data (.var 0)) (.cons (.ifs (.cmp .eq (.var 4) (.str "d")) (.cons (.set 3 (.bin .add (.var 3) (.ife (.cmp .gt (.var 1) (.int 0)) (.call 7 (.cons (.bin .sub (.var 1) (.int 1)) (.cons (.var 2) .nil))) (.int 0)))) (.cons (.set 2 (.bin .sub (.var 2) (.int 1))) .nil)) (.cons (.set 1 (.bin .sub (.var 1) (.int 1))) .nil)) .nil)) (.cons (.ret (.var 3)) .nil)))⟩
/-- mountain_at -/
def f_mountain_at : FI := ⟨"mountain_at", ["many", "place"], ["many", "place", "up", "down", "found", "ahead"], false,
  .cons (.expr (.call 1 (.cons (.var 0) .nil))) (.cons (.ifs (.nott (.chain .le .lt (.int 0) (.var 1) (.call 6 (.cons (.var 0) .nil)))) (.cons (.rais 2) .nil) .nil) (.cons (.par [2, 3, 4] (.cons (.var 0) (.cons (.var 0) (.cons (.str "") .nil)))) (.cons (.whl (.cmp .gt (.bin .add (.var 2) (.var 3)) (.int 0)) (.cons (.set 5 (.ife (.cmp .gt (.var 2) (.int 0)) (.call 7 (.cons (.bin .sub (.var 2) (.int 1)) (.cons (.var 3) .nil))) (.int 0))) (.cons (.ifs (.cmp .lt (.var 1) (.var 5)) (.cons (.par [4, 2] (.cons (.bin .add (.var 4) (.str "u")) (.cons (.bin .sub (.var 2) (.int 1)) .nil))) .nil) (.cons (.par [4, 3, 1] (.cons (.bin .add (.var 4) (.str "d")) (.cons (.bin .sub (.var 3) (.int 1)) (.cons (.bin .sub (.var 1) (.var 5)) .nil)))) .nil)) .nil))) (.cons (.ret (.var 4)) .nil))))⟩
/-- next_mountain -/
def f_next_mountain : FI := ⟨"next_mountain", ["text"], ["text", "place"], false,
  .cons (.expr (.call 5 (.cons (.var 0) .nil))) (.cons (.set 1 (.call 9 (.cons (.var 0) .nil))) (.cons (.ifs (.cmp .eq (.bin .add (.var 1) (.int 1)) (.call 6 (.cons (.bin .fdiv (.blt .len (.cons (.var 0) .nil)) (.int 2)) .nil))) (.cons (.rais 2) .nil) .nil) (.cons (.ret (.call 10 (.cons (.bin .fdiv (.blt .len (.cons (.var 0) .nil)) (.int 2)) (.cons (.bin .add (.var 1) (.int 1)) .nil)))) .nil)))⟩
/-- peaks -/
def f_peaks : FI := ⟨"peaks", ["text"], ["text"], false,
  .cons (.expr (.call 5 (.cons (.var 0) .nil))) (.cons (.ret (.m1 .count (.var 0) (.str "ud"))) .nil)⟩
/-- height -/
def f_height : FI := ⟨"height", ["text"], ["text"], false,
  .cons (.expr (.call 5 (.cons (.var 0) .nil))) (.cons (.ret (.blt .max (.cons (.call 3 (.cons (.var 0) .nil)) .nil))) .nil)⟩
/-- returns -/
def f_returns : FI := ⟨"returns", ["text"], ["text"], false,
  .cons (.expr (.call 5 (.cons (.var 0) .nil))) (.cons (.ret (.ml .count (.slc (.call 3 (.cons (.var 0) .nil)) (.so (.int 1)) .no) (.int 0))) .nil)⟩
/-- area -/
def f_area : FI := ⟨"area", ["text"], ["text"], false,
  .cons (.expr (.call 5 (.cons (.var 0) .nil))) (.cons (.ret (.blt .sum (.cons (.call 3 (.cons (.var 0) .nil)) .nil))) .nil)⟩
/-- count_peaks -/
def f_count_peaks : FI := ⟨"count_peaks", ["many", "few"], ["many", "few"], false,
  .cons (.expr (.call 1 (.cons (.var 0) .nil))) (.cons (.ifs (.cmp .eq (.var 0) (.int 0)) (.cons (.ret (.blt .int (.cons (.cmp .eq (.var 1) (.int 0)) .nil))) .nil) .nil) (.cons (.ret (.bin .fdiv (.bin .mul (.call 0 (.cons (.var 0) (.cons (.var 1) .nil))) (.call 0 (.cons (.var 0) (.cons (.bin .sub (.var 1) (.int 1)) .nil)))) (.var 0))) .nil))⟩
/-- count_returns -/
def f_count_returns : FI := ⟨"count_returns", ["many", "few"], ["many", "few"], false,
  .cons (.expr (.call 1 (.cons (.var 0) .nil))) (.cons (.ifs (.cmp .eq (.var 0) (.int 0)) (.cons (.ret (.blt .int (.cons (.cmp .eq (.var 1) (.int 0)) .nil))) .nil) .nil) (.cons (.ret (.ife (.chain .le .le (.int 1) (.var 1) (.var 0)) (.bin .fdiv (.bin .mul (.var 1) (.call 0 (.cons (.bin .sub (.bin .mul (.int 2) (.var 0)) (.var 1)) (.cons (.var 0) .nil)))) (.bin .sub (.bin .mul (.int 2) (.var 0)) (.var 1))) (.int 0))) .nil))⟩
/-- count_height -/
def f_count_height : FI := ⟨"count_height", ["many", "most"], ["many", "most", "wide", "total", "turn"], false,
  .cons (.expr (.call 1 (.cons (.var 0) .nil))) (.cons (.ifs (.nott (.chain .le .le (.int 0) (.var 1) (.glo 0))) (.cons (.rais 0) .nil) .nil) (.cons (.par [2, 3] (.cons (.bin .add (.var 1) (.int 2)) (.cons (.int 0) .nil))) (.cons (.fors (.name 4) (.rng2 (.bin .sub (.bin .fdiv (.neg (.bin .mul (.int 2) (.var 0))) (.var 2)) (.int 1)) (.bin .add (.bin .fdiv (.bin .mul (.int 2) (.var 0)) (.var 2)) (.int 2))) (.cons (.set 3 (.bin .sub (.bin .add (.var 3) (.call 0 (.cons (.bin .mul (.int 2) (.var 0)) (.cons (.bin .add (.var 0) (.bin .mul (.var 4) (.var 2))) .nil)))) (.call 0 (.cons (.bin .mul (.int 2) (.var 0)) (.cons (.bin .add (.bin .add (.var 0) (.int 1)) (.bin .mul (.var 4) (.var 2))) .nil))))) .nil)) (.cons (.ret (.var 3)) .nil))))⟩
/-- first_part -/
def f_first_part : FI := ⟨"first_part", ["text"], ["text", "at"], false,
  .cons (.expr (.call 5 (.cons (.var 0) .nil))) (.cons (.ifs (.cmp .eq (.blt .len (.cons (.var 0) .nil)) (.int 0)) (.cons (.rais 2) .nil) .nil) (.cons (.set 1 (.bin .add (.ml .index (.slc (.call 3 (.cons (.var 0) .nil)) (.so (.int 1)) .no) (.int 0)) (.int 1))) (.cons (.ret (.tup (.cons (.slc (.var 0) (.so (.int 1)) (.so (.bin .sub (.var 1) (.int 1)))) (.cons (.slc (.var 0) (.so (.var 1)) .no) .nil)))) .nil)))⟩
/-- turned -/
def f_turned : FI := ⟨"turned", ["text"], ["text", "letter"], false,
  .cons (.expr (.call 5 (.cons (.var 0) .nil))) (.cons (.ret (.m1 .join (.str "") (.lc (.ife (.cmp .eq (.var 1) (.str "d")) (.str "u") (.str "d")) (.name 1) (.data (.rev (.var 0))) .nil [1]))) .nil)⟩
/-- _law_same -/
def f__law_same : FI := ⟨"_law_same", ["told", "due"], ["told", "due"], false,
  .cons (.ret (.cmp .eq (.blt .repr (.cons (.lst (.cons (.var 0) .nil)) .nil)) (.blt .repr (.cons (.lst (.cons (.var 1) .nil)) .nil)))) .nil⟩
/-- _law_stream -/
def f__law_stream : FI := ⟨"_law_stream", ["script"], ["script", "numbers", "cell", "rest", "k", "stirred"], false,
  .cons (.set 1 (.lst .nil)) (.cons (.fors (.name 2) (.data (.slc (.var 0) .no (.so (.int 63)))) (.cons (.set 3 (.blt .abs (.cons (.blt .int (.cons (.var 2) .nil)) .nil))) (.cons (.ifs (.cmp .ge (.var 3) (.bin .pow (.int 10) (.int 18))) (.cons (.fors (.name 4) (.rng1 (.int 60)) (.cons (.app 1 (.bin .mod (.blt .int (.cons (.var 3) .nil)) (.int 1009))) (.cons (.set 3 (.bin .fdiv (.var 3) (.int 1009))) (.cons (.ifs (.cmp .eq (.var 3) (.int 0)) (.cons (.brk) .nil) .nil) .nil)))) .nil) (.cons (.set 5 (.bin .mod (.blt .int (.cons (.var 3) .nil)) (.int 2147483647))) (.cons (.fors (.name 4) (.rng1 (.int 10)) (.cons (.set 5 (.bin .mod (.blt .int (.cons (.bin .add (.bin .add (.bin .mul (.var 5) (.int 48271)) (.bin .mul (.int 7) (.var 4))) (.int 11)) .nil)) (.int 2147483647))) (.cons (.app 1 (.bin .mod (.bin .mod (.blt .int (.cons (.bin .add (.bin .mul (.var 5) (.int 69621)) (.var 4)) .nil)) (.int 2147483629)) (.int 1009))) .nil))) .nil))) .nil))) (.cons (.ifs (.cmp .eq (.blt .len (.cons (.var 1) .nil)) (.int 0)) (.cons (.app 1 (.int 0)) .nil) .nil) (.cons (.ret (.var 1)) .nil)))⟩
/-- _law_next -/
def f__law_next : FI := ⟨"_law_next", ["state", "many"], ["state", "many", "turn"], true,
  .cons (.seti 0 (.int 1) (.bin .add (.idx (.var 0) (.int 1)) (.int 1))) (.cons (.set 2 (.bin .fdiv (.idx (.var 0) (.int 1)) (.blt .len (.cons (.idx (.var 0) (.int 0)) .nil)))) (.cons (.ret (.bin .mod (.blt .int (.cons (.bin .add (.bin .add (.idx (.idx (.var 0) (.int 0)) (.bin .mod (.idx (.var 0) (.int 1)) (.blt .len (.cons (.idx (.var 0) (.int 0)) .nil)))) (.bin .mul (.var 2) (.int 389))) (.bin .mul (.bin .mul (.idx (.var 0) (.int 1)) (.var 2)) (.int 17))) .nil)) (.var 1))) .nil))⟩
/-- _law_levels -/
def f__law_levels : FI := ⟨"_law_levels", ["text"], ["text", "k"], false,
  .cons (.ret (.lc (.bin .sub (.bin .mul (.int 2) (.m1 .count (.slc (.var 0) .no (.so (.var 1))) (.str "u"))) (.var 1)) (.name 1) (.rng1 (.bin .add (.blt .len (.cons (.var 0) .nil)) (.int 1))) .nil [1])) .nil⟩
/-- _law_good -/
def f__law_good : FI := ⟨"_law_good", ["text"], ["text"], false,
  .cons (.ret (.ands (.cons (.cmp .ge (.blt .min (.cons (.call 24 (.cons (.var 0) .nil)) .nil)) (.int 0)) (.cons (.cmp .eq (.bin .mul (.int 2) (.m1 .count (.var 0) (.str "u"))) (.blt .len (.cons (.var 0) .nil))) .nil)))) .nil⟩
/-- _law_all -/
def f__law_all : FI := ⟨"_law_all", ["many"], ["many", "rows", "k", "longer", "text", "letter"], false,
  .cons (.set 1 (.lst (.cons (.str "") .nil))) (.cons (.fors (.name 2) (.rng1 (.bin .mul (.int 2) (.var 0))) (.cons (.set 3 (.lst .nil)) (.cons (.fors (.name 4) (.data (.var 1)) (.cons (.ext 3 (.lc (.bin .add (.var 4) (.var 5)) (.name 5) (.data (.lst (.cons (.str "u") (.cons (.str "d") .nil)))) (.cons (.chain .le .le (.int 0) (.idx (.call 24 (.cons (.bin .add (.var 4) (.var 5)) .nil)) (.neg (.int 1))) (.bin .sub (.bin .sub (.bin .mul (.int 2) (.var 0)) (.var 2)) (.int 1))) .nil) [5])) .nil)) (.cons (.set 1 (.var 3)) .nil)))) (.cons (.ret (.var 1)) .nil))⟩
/-- _law_choose -/
def f__law_choose : FI := ⟨"_law_choose", ["many", "few"], ["many", "few", "found", "k"], false,
  .cons (.ifs (.ors (.cons (.cmp .lt (.var 1) (.int 0)) (.cons (.cmp .gt (.var 1) (.var 0)) .nil))) (.cons (.ret (.int 0)) .nil) .nil) (.cons (.set 2 (.int 1)) (.cons (.fors (.name 3) (.rng1 (.var 1)) (.cons (.set 2 (.bin .fdiv (.bin .mul (.var 2) (.bin .sub (.var 0) (.var 3))) (.bin .add (.var 3) (.int 1)))) .nil)) (.cons (.ret (.var 2)) .nil)))⟩
/-- _law_narrow -/
def f__law_narrow : FI := ⟨"_law_narrow", ["many", "most"], ["many", "most", "line", "k", "at", "j"], false,
  .cons (.set 2 (.bin .add (.lst (.cons (.int 1) .nil)) (.rep (.lst (.cons (.int 0) .nil)) (.var 1)))) (.cons (.fors (.name 3) (.rng1 (.bin .mul (.int 2) (.var 0))) (.cons (.set 2 (.lc (.blt .sum (.cons (.lc (.idx (.var 2) (.var 5)) (.name 5) (.data (.lst (.cons (.bin .sub (.var 4) (.int 1)) (.cons (.bin .add (.var 4) (.int 1)) .nil)))) (.cons (.chain .le .le (.int 0) (.var 5) (.var 1)) .nil) [5]) .nil)) (.name 4) (.rng1 (.bin .add (.var 1) (.int 1))) .nil [4])) .nil)) (.cons (.ret (.idx (.var 2) (.int 0))) .nil))⟩
/-- _law_returns -/
def f__law_returns : FI := ⟨"_law_returns", ["text"], ["text", "k"], false,
  .cons (.ret (.blt .len (.cons (.lc (.var 1) (.name 1) (.rng2 (.int 1) (.bin .add (.blt .len (.cons (.var 0) .nil)) (.int 1))) (.cons (.cmp .eq (.idx (.call 24 (.cons (.var 0) .nil)) (.var 1)) (.int 0)) .nil) [1]) .nil))) .nil⟩
/-- _law_peaks -/
def f__law_peaks : FI := ⟨"_law_peaks", ["text"], ["text", "k"], false,
  .cons (.ret (.blt .len (.cons (.lc (.var 1) (.name 1) (.rng1 (.bin .sub (.blt .len (.cons (.var 0) .nil)) (.int 1))) (.cons (.cmp .eq (.slc (.var 0) (.so (.var 1)) (.so (.bin .add (.var 1) (.int 2)))) (.str "ud")) .nil) [1]) .nil))) .nil⟩
/-- _law_refuses -/
def f__law_refuses : FI := ⟨"_law_refuses", [], ["odd", "bad"], false,
  .cons (.set 0 (.lst .nil)) (.cons (.fors (.name 1) (.data (.lst (.cons (.str "du") (.cons (.str "u") (.cons (.str "uxd") (.cons (.str "ud ") (.cons (.bin .mul (.str "uudd") (.int 600)) .nil))))))) (.cons (.set 0 (.bin .add (.var 0) (.lst (.cons (.told tnm (.call 9 (.cons (.var 1) .nil))) (.cons (.told tnm (.call 11 (.cons (.var 1) .nil))) (.cons (.told tnm (.call 12 (.cons (.var 1) .nil))) (.cons (.told tnm (.call 13 (.cons (.var 1) .nil))) (.cons (.told tnm (.call 14 (.cons (.var 1) .nil))) (.cons (.told tnm (.call 15 (.cons (.var 1) .nil))) .nil))))))))) (.cons (.set 0 (.bin .add (.var 0) (.lst (.cons (.told tnm (.call 19 (.cons (.var 1) .nil))) (.cons (.told tnm (.call 20 (.cons (.var 1) .nil))) .nil))))) .nil))) (.cons (.set 0 (.bin .add (.var 0) (.lst (.cons (.told tnm (.call 4 (.cons (.str "UD") .nil))) (.cons (.told tnm (.call 6 (.cons (.neg (.int 1)) .nil))) (.cons (.told tnm (.call 6 (.cons (.int 1001) .nil))) (.cons (.told tnm (.call 8 (.cons (.neg (.int 1)) .nil))) (.cons (.told tnm (.call 10 (.cons (.int 1001) (.cons (.int 0) .nil)))) (.cons (.told tnm (.call 18 (.cons (.int 3) (.cons (.neg (.int 1)) .nil)))) .nil))))))))) (.cons (.set 0 (.bin .add (.var 0) (.lst (.cons (.told tnm (.call 16 (.cons (.neg (.int 1)) (.cons (.int 0) .nil)))) (.cons (.told tnm (.call 17 (.cons (.int 1001) (.cons (.int 1) .nil)))) (.cons (.told tnm (.call 18 (.cons (.int 1001) (.cons (.int 1) .nil)))) (.cons (.told tnm (.call 18 (.cons (.int 1) (.cons (.int 1001) .nil)))) (.cons (.told tnm (.call 4 (.cons (.bin .mul (.str "u") (.int 2001)) .nil))) .nil)))))))) (.cons (.ret (.ands (.cons (.cmp .eq (.var 0) (.rep (.lst (.cons (.tup (.cons (.str "refused") .nil)) .nil)) (.int 51))) (.cons (.cmp .eq (.told tnm (.call 8 (.cons (.int 9) .nil))) (.tup (.cons (.str "large") .nil))) .nil)))) .nil))))⟩
/-- law -/
def f_law : FI := ⟨"law", ["script"], ["script", "state", "turn", "many", "every", "few", "most", "told", "due", "place", "text", "rows", "at", "backwards", "end", "drawn", "case", "great", "part", "whole", "own", "wide", "high", "spot", "letter", "k"], false,
  .cons (.set 1 (.lst (.cons (.call 22 (.cons (.var 0) .nil)) (.cons (.int 0) .nil)))) (.cons (.fors (.name 2) (.rng1 (.int 3)) (.cons (.set 3 (.callm 23 1 (.cons (.int 7) .nil))) (.cons (.set 4 (.call 26 (.cons (.var 3) .nil))) (.cons (.set 5 (.bin .sub (.callm 23 1 (.cons (.int 9) .nil)) (.int 1))) (.cons (.set 6 (.callm 23 1 (.cons (.int 8) .nil))) (.cons (.set 7 (.lst (.cons (.told tnm (.call 8 (.cons (.var 3) .nil))) (.cons (.told tnm (.call 6 (.cons (.var 3) .nil))) (.cons (.told tnm (.call 16 (.cons (.var 3) (.cons (.var 5) .nil)))) (.cons (.told tnm (.call 17 (.cons (.var 3) (.cons (.var 5) .nil)))) (.cons (.told tnm (.call 18 (.cons (.var 3) (.cons (.var 6) .nil)))) .nil))))))) (.cons (.set 8 (.lst (.cons (.tup (.cons (.str "told") (.cons (.var 4) .nil))) (.cons (.tup (.cons (.str "told") (.cons (.blt .len (.cons (.var 4) .nil)) .nil))) (.cons (.tup (.cons (.str "told") (.cons (.blt .len (.cons (.lc (.var 10) (.name 10) (.data (.var 4)) (.cons (.cmp .eq (.call 30 (.cons (.var 10) .nil)) (.var 5)) .nil) [10]) .nil)) .nil))) (.cons (.tup (.cons (.str "told") (.cons (.blt .len (.cons (.lc (.var 10) (.name 10) (.data (.var 4)) (.cons (.cmp .eq (.call 29 (.cons (.var 10) .nil)) (.var 5)) .nil) [10]) .nil)) .nil))) (.cons (.tup (.cons (.str "told") (.cons (.blt .len (.cons (.lc (.var 10) (.name 10) (.data (.var 4)) (.cons (.cmp .le (.blt .max (.cons (.call 24 (.cons (.var 10) .nil)) .nil)) (.var 6)) .nil) [10]) .nil)) .nil))) .nil))))))) (.cons (.ifs (.nott (.tru (.call 21 (.cons (.var 7) (.cons (.var 8) .nil))))) (.cons (.ret (.bl false)) .nil) .nil) (.cons (.set 9 (.bin .sub (.callm 23 1 (.cons (.bin .add (.blt .len (.cons (.var 4) .nil)) (.int 2)) .nil)) (.int 1))) (.cons (.set 8 (.tup (.cons (.str "missing") .nil))) (.cons (.ifs (.chain .le .lt (.int 0) (.var 9) (.blt .len (.cons (.var 4) .nil))) (.cons (.set 8 (.tup (.cons (.str "told") (.cons (.idx (.var 4) (.var 9)) .nil)))) .nil) .nil) (.cons (.ifs (.nott (.tru (.call 21 (.cons (.told tnm (.call 10 (.cons (.var 3) (.cons (.var 9) .nil)))) (.cons (.var 8) .nil))))) (.cons (.ret (.bl false)) .nil) .nil) (.cons (.set 10 (.idx (.var 4) (.callm 23 1 (.cons (.blt .len (.cons (.var 4) .nil)) .nil)))) (.cons (.set 11 (.call 24 (.cons (.var 10) .nil))) (.cons (.set 12 (.ml .index (.var 4) (.var 10))) (.cons (.set 13 (.m1 .join (.str "") (.lc (.idx (.lst (.cons (.str "u") (.cons (.str "d") .nil))) (.blt .int (.cons (.cmp .eq (.var 24) (.str "u")) .nil))) (.name 24) (.data (.rev (.var 10))) .nil [24]))) (.cons (.set 7 (.lst (.cons (.told tnm (.call 9 (.cons (.var 10) .nil))) (.cons (.told tnm (.call 11 (.cons (.var 10) .nil))) (.cons (.told tnm (.call 12 (.cons (.var 10) .nil))) (.cons (.told tnm (.call 13 (.cons (.var 10) .nil))) (.cons (.told tnm (.call 14 (.cons (.var 10) .nil))) (.cons (.told tnm (.call 15 (.cons (.var 10) .nil))) .nil)))))))) (.cons (.set 8 (.lst (.cons (.tup (.cons (.str "told") (.cons (.var 12) .nil))) (.cons (.tup (.cons (.str "missing") .nil)) (.cons (.tup (.cons (.str "told") (.cons (.call 30 (.cons (.var 10) .nil)) .nil))) (.cons (.tup (.cons (.str "told") (.cons (.blt .max (.cons (.var 11) .nil)) .nil))) (.cons (.tup (.cons (.str "told") (.cons (.call 29 (.cons (.var 10) .nil)) .nil))) (.cons (.tup (.cons (.str "told") (.cons (.blt .sum (.cons (.var 11) .nil)) .nil))) .nil)))))))) (.cons (.ifs (.cmp .lt (.bin .add (.var 12) (.int 1)) (.blt .len (.cons (.var 4) .nil))) (.cons (.seti 8 (.int 1) (.tup (.cons (.str "told") (.cons (.idx (.var 4) (.bin .add (.var 12) (.int 1))) .nil)))) .nil) .nil) (.cons (.ifs (.nott (.tru (.call 21 (.cons (.var 7) (.cons (.var 8) .nil))))) (.cons (.ret (.bl false)) .nil) .nil) (.cons (.set 8 (.tup (.cons (.str "missing") .nil))) (.cons (.ifs (.cmp .ne (.var 10) (.str "")) (.cons (.set 14 (.idx (.lc (.var 25) (.name 25) (.rng2 (.int 1) (.bin .add (.blt .len (.cons (.var 10) .nil)) (.int 1))) (.cons (.cmp .eq (.idx (.var 11) (.var 25)) (.int 0)) .nil) [25]) (.int 0))) (.cons (.set 8 (.tup (.cons (.str "told") (.cons (.tup (.cons (.slc (.var 10) (.so (.int 1)) (.so (.bin .sub (.var 14) (.int 1)))) (.cons (.slc (.var 10) (.so (.var 14)) .no) .nil))) .nil)))) .nil)) .nil) (.cons (.ifs (.nott (.tru (.call 21 (.cons (.lst (.cons (.told tnm (.call 19 (.cons (.var 10) .nil))) (.cons (.told tnm (.call 20 (.cons (.var 10) .nil))) .nil))) (.cons (.lst (.cons (.var 8) (.cons (.tup (.cons (.str "told") (.cons (.var 13) .nil))) .nil))) .nil))))) (.cons (.ret (.bl false)) .nil) .nil) (.cons (.set 15 (.m1 .join (.str "") (.lc (.idx (.lst (.cons (.str "u") (.cons (.str "d") .nil))) (.callm 23 1 (.cons (.int 2) .nil))) (.name 25) (.rng1 (.callm 23 1 (.cons (.int 9) .nil))) .nil [25]))) (.cons (.fors (.name 16) (.data (.lst (.cons (.var 10) (.cons (.var 15) (.cons (.slc (.var 10) (.so (.int 1)) .no) (.cons (.bin .add (.var 10) (.str "ud")) (.cons (.bin .add (.bin .add (.str "d") (.var 10)) (.str "u")) (.cons (.rev (.var 10)) .nil)))))))) (.cons (.ifs (.nott (.tru (.call 21 (.cons (.told tnm (.call 4 (.cons (.var 16) .nil))) (.cons (.tup (.cons (.str "told") (.cons (.call 25 (.cons (.var 16) .nil)) .nil))) .nil))))) (.cons (.ret (.bl false)) .nil) .nil) .nil)) (.cons (.set 17 (.bin .add (.int 1) (.callm 23 1 (.cons (.idx (.lst (.cons (.int 40) (.cons (.int 1000) .nil))) (.callm 23 1 (.cons (.int 2) .nil))) .nil)))) (.cons (.set 18 (.bin .add (.int 1) (.callm 23 1 (.cons (.var 17) .nil)))) (.cons (.set 19 (.bin .fdiv (.call 27 (.cons (.bin .mul (.int 2) (.var 17)) (.cons (.var 17) .nil))) (.bin .add (.var 17) (.int 1)))) (.cons (.set 20 (.lst (.cons (.var 19) (.cons (.bin .fdiv (.bin .mul (.call 27 (.cons (.var 17) (.cons (.var 18) .nil))) (.call 27 (.cons (.var 17) (.cons (.bin .sub (.var 18) (.int 1)) .nil)))) (.var 17)) (.cons (.bin .fdiv (.bin .mul (.var 18) (.call 27 (.cons (.bin .sub (.bin .mul (.int 2) (.var 17)) (.var 18)) (.cons (.var 17) .nil)))) (.bin .sub (.bin .mul (.int 2) (.var 17)) (.var 18))) .nil))))) (.cons (.ifs (.cmp .ne (.lst (.cons (.call 6 (.cons (.var 17) .nil)) (.cons (.call 16 (.cons (.var 17) (.cons (.var 18) .nil))) (.cons (.call 17 (.cons (.var 17) (.cons (.var 18) .nil))) .nil)))) (.var 20)) (.cons (.ret (.bl false)) .nil) .nil) (.cons (.set 21 (.callm 23 1 (.cons (.int 60) .nil))) (.cons (.set 22 (.callm 23 1 (.cons (.int 20) .nil))) (.cons (.ifs (.cmp .ne (.call 18 (.cons (.var 21) (.cons (.var 22) .nil))) (.call 28 (.cons (.var 21) (.cons (.var 22) .nil)))) (.cons (.ret (.bl false)) .nil) .nil) (.cons (.set 23 (.bin .mod (.blt .int (.cons (.bin .add (.bin .mul (.bin .mul (.callm 23 1 (.cons (.int 1009) .nil)) (.int 1009)) (.int 1009)) (.callm 23 1 (.cons (.int 1009) .nil))) .nil)) (.call 27 (.cons (.bin .mul (.int 2) (.var 21)) (.cons (.var 21) .nil))))) (.cons (.set 7 (.told tnm (.call 10 (.cons (.var 21) (.cons (.var 23) .nil))))) (.cons (.ifs (.cmp .lt (.bin .mul (.var 23) (.bin .add (.var 21) (.int 1))) (.call 27 (.cons (.bin .mul (.int 2) (.var 21)) (.cons (.var 21) .nil)))) (.cons (.ifs (.ors (.cons (.cmp .ne (.idx (.var 7) (.int 0)) (.str "told")) (.cons (.nott (.tru (.call 25 (.cons (.idx (.var 7) (.int 1)) .nil)))) (.cons (.cmp .ne (.blt .len (.cons (.idx (.var 7) (.int 1)) .nil)) (.bin .mul (.int 2) (.var 21))) (.cons (.cmp .ne (.call 9 (.cons (.idx (.var 7) (.int 1)) .nil)) (.var 23)) .nil))))) (.cons (.ret (.bl false)) .nil) .nil) .nil) (.cons (.ifs (.cmp .ne (.var 7) (.tup (.cons (.str "missing") .nil))) (.cons (.ret (.bl false)) .nil) .nil) .nil)) (.cons (.ifs (.nott (.tru (.call 31 .nil))) (.cons (.ret (.bl false)) .nil) .nil) .nil))))))))))))))))))))))))))))))))))))) (.cons (.ret (.bl true)) .nil))⟩
def d_choose : Df := ⟨"choose", f_choose, top 8⟩
def d_check_half : Df := ⟨"check_half", f_check_half, top 12⟩
def d_check_text : Df := ⟨"check_text", f_check_text, top 13⟩
def d_levels : Df := ⟨"levels", f_levels, top 14⟩
def d_is_mountain : Df := ⟨"is_mountain", f_is_mountain, top 15⟩
def d_check_mountain : Df := ⟨"check_mountain", f_check_mountain, top 16⟩
def d_count : Df := ⟨"count", f_count, top 17⟩
def d_ends : Df := ⟨"ends", f_ends, top 18⟩
def d_all_mountains : Df := ⟨"all_mountains", f_all_mountains, top 19⟩
def d_place_of : Df := ⟨"place_of", f_place_of, top 20⟩
def d_mountain_at : Df := ⟨"mountain_at", f_mountain_at, top 21⟩
def d_next_mountain : Df := ⟨"next_mountain", f_next_mountain, top 22⟩
def d_peaks : Df := ⟨"peaks", f_peaks, top 23⟩
def d_height : Df := ⟨"height", f_height, top 24⟩
def d_returns : Df := ⟨"returns", f_returns, top 25⟩
def d_area : Df := ⟨"area", f_area, top 26⟩
def d_count_peaks : Df := ⟨"count_peaks", f_count_peaks, top 27⟩
def d_count_returns : Df := ⟨"count_returns", f_count_returns, top 28⟩
def d_count_height : Df := ⟨"count_height", f_count_height, top 29⟩
def d_first_part : Df := ⟨"first_part", f_first_part, top 30⟩
def d_turned : Df := ⟨"turned", f_turned, top 31⟩
def d__law_same : Df := ⟨"_law_same", f__law_same, top 33⟩
def d__law_stream : Df := ⟨"_law_stream", f__law_stream, top 34⟩
def d__law_next : Df := ⟨"_law_next", f__law_next, top 35⟩
def d__law_levels : Df := ⟨"_law_levels", f__law_levels, top 37⟩
def d__law_good : Df := ⟨"_law_good", f__law_good, top 38⟩
def d__law_all : Df := ⟨"_law_all", f__law_all, top 39⟩
def d__law_choose : Df := ⟨"_law_choose", f__law_choose, top 40⟩
def d__law_narrow : Df := ⟨"_law_narrow", f__law_narrow, top 41⟩
def d__law_returns : Df := ⟨"_law_returns", f__law_returns, top 42⟩
def d__law_peaks : Df := ⟨"_law_peaks", f__law_peaks, top 43⟩
def d__law_refuses : Df := ⟨"_law_refuses", f__law_refuses, top 44⟩
def d_law : Df := ⟨"law", f_law, top 45⟩
def mo : Mo := { fs := [d_choose, d_check_half, d_check_text, d_levels, d_is_mountain, d_check_mountain, d_count, d_ends, d_all_mountains, d_place_of, d_mountain_at, d_next_mountain, d_peaks, d_height, d_returns, d_area, d_count_peaks, d_count_returns, d_count_height, d_first_part, d_turned, d__law_same, d__law_stream, d__law_next, d__law_levels, d__law_good, d__law_all, d__law_choose, d__law_narrow, d__law_returns, d__law_peaks, d__law_refuses, d_law], blts := ["range", "min", "all", "len", "max", "sum", "int", "repr", "abs"], glos := [("MAX_LONG", .int 1000), ("MAX_SHOWN", .int 8)], excs := ["NotAllowed", "TooLarge", "Missing"], lam := ["_law_refuses", "law"], tnm := tnm }
theorem mo_ok : mo.ok = true := by decide +kernel
theorem mo_okT : mo.okT (top 36) = true := by decide +kernel
end K04
/-! k04, plain: texts of steps. -/
namespace K04
open PySem Wd
def cd (b : Bool) : Nat := if b then 117 else 100
def tx (w : List Bool) : Str := ⟨(w.map cd).toArray⟩
def lt (b : Bool) : Str := ⟨#[cd b]⟩
theorem cd_inj {a b : Bool} (h : cd a = cd b) : a = b := by
  cases a <;> cases b <;> first | rfl | (exact absurd h (by decide))
theorem t_u : ("u" : Str) = lt true := by decide +kernel
theorem t_d : ("d" : Str) = lt false := by decide +kernel
theorem t_1 (b : Bool) : lt b = tx [b] := rfl
theorem t_0 : ("" : Str) = tx [] := by decide +kernel
theorem lt_eq (a b : Bool) : decide (lt a = lt b) = (a == b) := by
  cases a <;> cases b <;> decide +kernel
theorem t_list (w : List Bool) : (tx w).cps.toList = w.map cd := by simp [tx]
theorem t_len (w : List Bool) : (tx w).length = w.length := by
  show (w.map cd).toArray.size = w.length
  simp
theorem t_items (w : List Bool) : items (.str (tx w)) = some (w.map fun b => .str (lt b)) := by
  show some ((tx w).cps.toList.map fun c => PyData.str ⟨#[c]⟩) = _
  rw [t_list, List.map_map]
  rfl
theorem t_app (v w : List Bool) : tx v ++ tx w = tx (v ++ w) := by
  have h : (tx v ++ tx w).cps = (tx (v ++ w)).cps := by
    rw [Str.cps_append]
    show (v.map cd).toArray ++ (w.map cd).toArray = ((v ++ w).map cd).toArray
    simp
  have e : ∀ a b : Str, a.cps = b.cps → a = b := fun a b h => by cases a; cases b; cases h; rfl
  exact e _ _ h
theorem t_inj {v w : List Bool} (h : tx v = tx w) : v = w := by
  have e : v.map cd = w.map cd := by rw [← t_list, ← t_list, h]
  have : ∀ v w : List Bool, v.map cd = w.map cd → v = w := by
    intro v
    induction v with
    | nil => intro w h; cases w <;> first | rfl | cases h
    | cons a v ih =>
      intro w h
      cases w with
      | nil => cases h
      | cons b w =>
        rw [List.map_cons, List.map_cons, List.cons.injEq] at h
        rw [cd_inj h.1, ih w h.2]
  exact this v w e
def cutB {α : Type} (w : List α) (lo hi : Option Int) : List α := (w.drop (HT.sIx w.length 0 lo)).take (HT.sIx w.length w.length hi - HT.sIx w.length 0 lo)
theorem t_cut (w : List Bool) (lo hi : Option Int) : L2.cutS (tx w) lo hi = tx (cutB w lo hi) := by
  unfold L2.cutS cutB tx
  have e : (tx w).length = w.length := t_len w
  unfold tx at e
  rw [e]
  simp [List.map_take, List.map_drop]
theorem t_rev (w : List Bool) : (⟨(tx w).cps.toList.reverse.toArray⟩ : Str) = tx w.reverse := by
  rw [t_list]
  unfold tx
  rw [List.map_reverse]
theorem t_count (w : List Bool) : Txt.count (tx w) "u" = (w.count true : Nat) := by
  have e : ("u" : Str) = ⟨#[117]⟩ := t_u
  rw [e, PyProof.Rows.count_is, t_list]
  show PyProof.Rows.cnt 117 (w.map cd) = _
  induction w with
  | nil => rfl
  | cons b w ih =>
    rw [List.map_cons, PyProof.Rows.cnt_cons, ih]
    cases b <;> simp [cd]
    omega
theorem t_join (w : List Bool) : Txt.join "" (w.map lt) = tx w := by
  rw [TL.join_eq]
  have e0 : ∀ s : Str, s ++ ("" : Str) = s := fun s => by
    have h : (s ++ ("" : Str)).cps = s.cps := by
      rw [Str.cps_append]
      show s.cps ++ #[] = s.cps
      simp
    cases s
    cases hq : ((⟨_⟩ : Str) ++ ("" : Str))
    rw [hq] at h
    cases h
    rfl
  have go : ∀ w : List Bool, Str.join "" (w.map lt) = tx w := by
    intro w
    induction w with
    | nil => decide +kernel
    | cons b w ih =>
      cases w with
      | nil => rfl
      | cons c w =>
        show lt b ++ ("" : Str) ++ Str.join "" ((c :: w).map lt) = _
        rw [e0, ih, t_1, t_app]
        rfl
  exact go w
theorem t_chs (w : List Bool) : Chs (tx w) := by
  intro c hc
  rw [t_list] at hc
  obtain ⟨b, _, rfl⟩ := List.mem_map.mp hc
  cases b <;> decide
theorem t_sh (w : List Bool) (h : w.length ≤ 2000) : Sh 0 21000 (.str (tx w)) := (Sh.str (t_chs w)).mono (by omega) (by rw [t_len]; omega)
end K04
/-! k04, plain: choices, checks. -/
namespace K04
open PySem Wd
theorem gl0 : mo.gl[0]? = some (.int 1000) := rfl
theorem gl1 : mo.gl[1]? = some (.int 8) := rfl
theorem noOwn1 {e : DEnv} {i : Nat} (h : ∀ xs, e[i]? ≠ some (some (DV.own xs))) : noOwn e [i] = true := by
  simp only [noOwn, List.all_cons, List.all_nil, Bool.and_true]
abbrev cB : Ss := .cons (.set 2 (.bin .fdiv (.bin .mul (.var 2) (.bin .sub (.var 0) (.var 3))) (.bin .add (.var 3) (.int 1)))) .nil
theorem lp_bd (n i : Nat) (hn : n ≤ 2000) (hi : i ≤ n) : Bd 2001 (lp n i : Int) := by
  rw [lp_eq n i hi]
  have h := ch_le n i
  have h2 : 2 ^ n ≤ 2 ^ 2000 := Nat.pow_le_pow_right (by omega) hn
  have h3 : 2 ^ 2000 < 2 ^ 2001 := Nat.pow_lt_pow_right (by omega) (by omega)
  show ((ch n i : Nat) : Int).natAbs < 2 ^ 2001
  rw [Int.natAbs_natCast]
  exact Nat.lt_of_le_of_lt (Nat.le_trans h h2) h3
theorem ch_bd (n : Nat) (k : Int) (hn : n ≤ 2000) : Bd 2001 (chI n k) := by
  cases k with
  | negSucc k =>
    show (0 : Int).natAbs < 2 ^ 2001
    exact Nat.two_pow_pos _
  | ofNat k =>
    have h := ch_le n k
    have h2 : 2 ^ n ≤ 2 ^ 2000 := Nat.pow_le_pow_right (by omega) hn
    have h3 : 2 ^ 2000 < 2 ^ 2001 := Nat.pow_lt_pow_right (by omega) (by omega)
    show ((ch n k : Nat) : Int).natAbs < 2 ^ 2001
    rw [Int.natAbs_natCast]
    exact Nat.lt_of_le_of_lt (Nat.le_trans h h2) h3
theorem ch_step (O : Orc) (k : Option DV) (v w : Int) (a i : Int) (m1 : mulOk v (a - i) = true) (d1 : divOk (i + 1) = true) (hw : (v * (a - i)).fdiv (i + 1) = w) : exSs O cB [iD a, k, iD v, iD i] = .ok .nx [iD a, k, iD w, iD i] := by
  subst hw
  simp [m1, d1]
theorem ch_loop (O : Orc) (k o : Option DV) (n m : Nat) (hn : n ≤ 2000) (hm : m ≤ n) : ∃ o', forL (.name 3) (exSs O cB) (rangeD 0 m) [iD n, k, iD 1, o] = .ok .nx [iD n, k, iD (lp n m), o'] := by
  obtain ⟨e, h1, o', rfl⟩ := forL_run (g := .name 3) (body := exSs O cB) (fun i e => ∃ o, e = [iD n, k, iD (lp n i), o]) (fun e => ∃ o, e = [iD n, k, iD (lp n m), o]) (rangeD 0 m) 0 [iD n, k, iD 1, o] ⟨o, rfl⟩ (fun i x e hx he => by
      obtain ⟨o, rfl⟩ := he
      obtain ⟨hi, rfl⟩ := range_get hx
      rw [Nat.zero_add]
      have b1 := lp_bd n i hn (by omega)
      have b2 : Bd 20 ((n : Int) - i) := Bd.of (by omega) (by omega)
      have b3 : Bd 20 ((i : Int) + 1) := Bd.of (by omega) (by omega)
      refine ⟨[iD n, k, iD (lp n i), iD i], [iD n, k, iD (lp n (i + 1)), iD i], .nx, rfl, ch_step O k _ _ _ _ (b1.mulOk b2 (by omega)) (b3.divOk (by omega) (by omega)) ?_, .inl ⟨.inl rfl, _, rfl⟩⟩
      have e1 : (n : Int) - i = ((n - i : Nat) : Int) := by omega
      have e2 : (i : Int) + 1 = ((i + 1 : Nat) : Int) := by omega
      rw [e1, e2, ← Int.natCast_mul, fdiv_nat]
      rfl) (fun e he => by
      obtain ⟨o, rfl⟩ := he
      rw [Nat.zero_add, range_len]
      exact ⟨o, rfl⟩)
  exact ⟨o', h1⟩
section
variable (n : Nat)
theorem c_choose (a : Nat) (k : Int) (ha : a ≤ 2000) : mo.cf (n + 1) 0 [.d (.int a), .d (.int k)] = .ok (.d (.int (chI a k))) none := by
  rw [cf_eq mo n 0 _ f_choose rfl]
  by_cases h0 : k < 0
  · rw [chI_neg a h0]
    refine (runF_ret (v := .d (.int 0)) (e0 := [iD a, iD k, none, none]) (e := [iD a, iD k, none, none]) rfl rfl rfl (run_ret ?_)).trans rfl
    simp [h0]
  · by_cases h1 : (a : Int) < k
    · rw [chI_big a h1]
      refine (runF_ret (v := .d (.int 0)) (e0 := [iD a, iD k, none, none]) (e := [iD a, iD k, none, none]) rfl rfl rfl (run_ret ?_)).trans rfl
      simp [h0, h1]
    · obtain ⟨K, rfl⟩ : ∃ K : Nat, k = K := ⟨k.toNat, by omega⟩
      obtain ⟨m, hm⟩ : ∃ m : Nat, m = min K (a - K) := ⟨_, rfl⟩
      obtain ⟨o, ho⟩ := ch_loop (Oc mo n) (iD K) none a m ha (by omega)
      have hv : lp a m = ch a K := by
        rw [ch_fast, if_pos (by omega), hm]
      rw [hv] at ho
      refine (runF_ret (v := .d (.int (chI a K))) (e0 := [iD a, iD K, none, none]) (e := [iD a, iD K, iD (ch a K), o]) rfl rfl rfl (run_cons (e1 := [iD a, iD K, none, none]) ?_ (run_cons (e1 := [iD a, iD K, iD 1, none]) ?_ (run_cons (e1 := [iD a, iD K, iD (ch a K), o]) ?_ (run_ret ?_))))).trans rfl
      · simp [h0, h1]
      · simp
      · have er : ev (Oc mo n) (.blt .min (.cons (.var 1) (.cons (.bin .sub (.var 0) (.var 1)) .nil))) [iD a, iD K, iD 1, none] = .ok (.val (.d (.int m))) [iD a, iD K, iD 1, none] := by
          have e1 : (if (a : Int) - K < K then (a : Int) - K else (K : Int)) = m := by split <;> omega
          simp [e1]
        have sm := sm_few (n := m) (by omega)
        rw [x_fors, i_rng er sm, R.bind_ok]
        exact ho
      · simp [chI_nat]
theorem c_lchoose (a : Nat) (k : Int) (ha : a ≤ 2000) : mo.cf (n + 1) 27 [.d (.int a), .d (.int k)] = .ok (.d (.int (chI a k))) none := by
  rw [cf_eq mo n 27 _ f__law_choose rfl]
  by_cases h0 : k < 0
  · rw [chI_neg a h0]
    refine (runF_ret (v := .d (.int 0)) (e0 := [iD a, iD k, none, none]) (e := [iD a, iD k, none, none]) rfl rfl rfl (run_ret ?_)).trans rfl
    simp [h0]
  · by_cases h1 : (a : Int) < k
    · rw [chI_big a h1]
      refine (runF_ret (v := .d (.int 0)) (e0 := [iD a, iD k, none, none]) (e := [iD a, iD k, none, none]) rfl rfl rfl (run_ret ?_)).trans rfl
      simp [h0, h1]
    · obtain ⟨K, rfl⟩ : ∃ K : Nat, k = K := ⟨k.toNat, by omega⟩
      obtain ⟨o, ho⟩ := ch_loop (Oc mo n) (iD K) none a K ha (by omega)
      rw [lp_eq a K (by omega)] at ho
      refine (runF_ret (v := .d (.int (chI a K))) (e0 := [iD a, iD K, none, none]) (e := [iD a, iD K, iD (ch a K), o]) rfl rfl rfl (run_cons (e1 := [iD a, iD K, none, none]) ?_ (run_cons (e1 := [iD a, iD K, iD 1, none]) ?_ (run_cons (e1 := [iD a, iD K, iD (ch a K), o]) ?_ (run_ret ?_))))).trans rfl
      · simp [h0, h1]
      · simp
      · have er : ev (Oc mo n) (.var 1) [iD a, iD K, iD 1, none] = .ok (.slot 1) [iD a, iD K, iD 1, none] := by simp
        rw [x_fors, i_rngv er rfl (sm_few (n := K) (by omega)), R.bind_ok]
        exact ho
      · simp [chI_nat]
theorem c_half (k : Int) : mo.cf (n + 1) 1 [.d (.int k)] = if 0 ≤ k ∧ k ≤ 1000 then .ok (.d .none) none else .exc 0 := by
  rw [cf_eq mo n 1 _ f_check_half rfl]
  by_cases h1 : 0 ≤ k
  · by_cases h2 : k ≤ 1000
    · rw [if_pos ⟨h1, h2⟩]
      refine (runF_nx (e0 := [iD k]) (e := [iD k]) rfl rfl rfl (run_cons (e1 := [iD k]) ?_ rfl)).trans rfl
      simp [gl0, h1, h2]
    · rw [if_neg (by omega)]
      refine runF_exc (e0 := [iD k]) rfl rfl rfl rfl (run_exc ?_)
      simp [gl0, h1, h2]
  · rw [if_neg (by omega)]
    refine runF_exc (e0 := [iD k]) rfl rfl rfl rfl (run_exc ?_)
    simp [gl0, h1]
theorem c_count (k : Int) : mo.cf (n + 2) 6 [.d (.int k)] = if 0 ≤ k ∧ k ≤ 1000 then .ok (.d (.int (bal k k))) none else .exc 0 := by
  rw [cf_eq mo (n + 1) 6 _ f_count rfl]
  have ch := c_half n k
  by_cases h : 0 ≤ k ∧ k ≤ 1000
  · rw [if_pos h] at ch ⊢
    obtain ⟨K, rfl⟩ : ∃ K : Nat, k = K := ⟨k.toNat, by omega⟩
    have cc := c_choose n (2 * K) K (by omega)
    have e2 : ((2 * K : Nat) : Int) = 2 * (K : Int) := by omega
    rw [e2] at cc
    have m1 : mulOk 2 (K : Int) = true := Bd.mulOk (k := 20) (l := 20) (by unfold Bd; decide) (Bd.of (by omega) (by omega)) (by omega)
    have b3 : Bd 20 ((K : Int) + 1) := Bd.of (by omega) (by omega)
    have d1 := b3.divOk (by omega) (by omega)
    have ev : (chI (2 * K) (K : Int)).fdiv ((K : Int) + 1) = bal K K := by
      rw [bal_cat, chI_nat, show (K : Int) + 1 = ((K + 1 : Nat) : Int) by omega, fdiv_nat]
    generalize chI (2 * K) (K : Int) = C at *
    refine (runF_ret (v := .d (.int (bal K K))) (e0 := [iD K]) (e := [iD K]) rfl rfl rfl (run_cons (e1 := [iD K]) ?_ (run_ret ?_))).trans rfl
    · simp [ch]
    · simp [m1, cc, d1, ev]
  · rw [if_neg h] at ch ⊢
    refine runF_exc (e0 := [iD k]) rfl rfl rfl rfl (run_exc ?_)
    simp [ch]
theorem c_ends (u d : Int) (h0 : 0 ≤ u + d) (h1 : u + d ≤ 2000) : mo.cf (n + 2) 7 [.d (.int u), .d (.int d)] = .ok (.d (.int (bal u d))) none := by
  rw [cf_eq mo (n + 1) 7 _ f_ends rfl]
  have c1 := c_choose n (u + d).toNat u (by omega)
  have c2 := c_choose n (u + d).toNat (u - 1) (by omega)
  rw [show (((u + d).toNat : Nat) : Int) = u + d by omega] at c1 c2
  refine runF_one (e0 := [iD u, iD d]) rfl rfl rfl rfl rfl ?_
  unfold bal
  generalize chI (u + d).toNat u = A at *
  generalize chI (u + d).toNat (u - 1) = B at *
  simp [c1, c2]
end
end K04
/-! k04, plain: heights; what is a mountain. -/
namespace K04
open PySem Wd
def sg (b : Bool) : Int := if b then 1 else -1
def hg : List Bool → Int
  | [] => 0
  | b :: w => sg b + hg w
/-- all heights, from h on -/
def lv : Int → List Bool → List Int
  | h, [] => [h]
  | h, b :: w => h :: lv (h + sg b) w
theorem lv_len : ∀ (w : List Bool) (h : Int), (lv h w).length = w.length + 1
  | [], _ => rfl
  | _ :: w, h => by rw [lv, List.length_cons, lv_len w, List.length_cons]
theorem lv_snoc : ∀ (w : List Bool) (h : Int) (b : Bool), lv h (w ++ [b]) = lv h w ++ [h + hg w + sg b]
  | [], h, b => by
    show [h, h + sg b] = [h] ++ [h + 0 + sg b]
    simp
  | c :: w, h, b => by
    rw [List.cons_append, lv, lv_snoc w, lv, List.cons_append]
    have : h + sg c + hg w + sg b = h + hg (c :: w) + sg b := by
      show _ = h + (sg c + hg w) + sg b
      omega
    rw [this]
theorem lv_last : ∀ (w : List Bool) (h : Int), ∃ V, lv h w = V ++ [h + hg w] ∧ V.length = w.length
  | [], h => ⟨[], by show [h] = [] ++ [h + 0]; simp, rfl⟩
  | b :: w, h => by
    obtain ⟨V, h1, h2⟩ := lv_last w (h + sg b)
    refine ⟨h :: V, ?_, by simp [h2]⟩
    rw [lv, h1, List.cons_append]
    have : h + sg b + hg w = h + hg (b :: w) := by
      show _ = h + (sg b + hg w)
      omega
    rw [this]
theorem lv_get : ∀ (w : List Bool) (h : Int) (k : Nat), k ≤ w.length → (lv h w)[k]? = some (h + hg (w.take k))
  | [], h, k, hk => by
    have : k = 0 := by simpa using hk
    subst this
    show some h = some (h + 0)
    simp
  | b :: w, h, 0, _ => by
    show some h = some (h + 0)
    simp
  | b :: w, h, k + 1, hk => by
    rw [lv, List.getElem?_cons_succ, lv_get w (h + sg b) k (by simpa using hk), List.take_succ_cons]
    show some (h + sg b + hg (w.take k)) = some (h + (sg b + hg (w.take k)))
    congr 1
    omega
theorem hg_count : ∀ w : List Bool, hg w = 2 * (w.count true : Nat) - w.length
  | [] => rfl
  | b :: w => by
    have ih := hg_count w
    show sg b + hg w = _
    rw [ih, List.length_cons]
    cases b <;> simp [sg] <;> omega
theorem lv_eq (w : List Bool) : lv 0 w = (List.range (w.length + 1)).map fun k => 2 * (((w.take k).count true : Nat) : Int) - k := by
  apply List.ext_getElem?
  intro k
  rcases Nat.lt_or_ge k (w.length + 1) with h | h
  · rw [lv_get w 0 k (by omega), List.getElem?_map, List.getElem?_range h, hg_count, List.length_take, Nat.min_eq_left (by omega)]
    show some _ = some _
    rw [Int.zero_add]
  · rw [List.getElem?_eq_none (by rw [lv_len]; omega), List.getElem?_eq_none (by simp; omega)]
def tests (w : List Bool) : Bool := decide (0 ≤ minI ((lv 0 w).headD 0) (lv 0 w).tail) && decide (hg w = 0)
theorem lv_cons (w : List Bool) (h : Int) : ∃ r, lv h w = h :: r := by
  cases w with
  | nil => exact ⟨[], rfl⟩
  | cons b w => exact ⟨_, rfl⟩
theorem minI_ge {a x : Int} {r : List Int} : a ≤ minI x r ↔ ∀ y ∈ x :: r, a ≤ y := by
  obtain ⟨h1, h2⟩ := minI_le r x
  constructor
  · intro h y hy
    rcases List.mem_cons.mp hy with rfl | hy
    · omega
    · have := h2 y hy
      omega
  · intro h
    rcases minI_mem r x with q | q
    · rw [q]
      exact h _ List.mem_cons_self
    · exact h _ (List.mem_cons_of_mem _ q)
theorem gd_iff : ∀ (w : List Bool) (h : Int), gd h w = true ↔ (∀ y ∈ lv h w, 0 ≤ y) ∧ h + hg w = 0
  | [], h => by
    show decide (h = 0) = true ↔ (∀ y ∈ [h], 0 ≤ y) ∧ h + 0 = 0
    simp
    omega
  | b :: w, h => by
    have ih := gd_iff w (h + sg b)
    have e : gd h (b :: w) = (decide (0 ≤ h) && gd (h + sg b) w) := by cases b <;> rfl
    have e2 : h + hg (b :: w) = h + sg b + hg w := by
      show h + (sg b + hg w) = _
      omega
    rw [e, Bool.and_eq_true, ih, decide_eq_true_eq, lv, e2]
    simp [and_assoc]
theorem tests_gd (w : List Bool) : tests w = gd 0 w := by
  obtain ⟨r, hr⟩ := lv_cons w 0
  have h1 : gd 0 w = true ↔ tests w = true := by
    rw [gd_iff]
    unfold tests
    rw [hr, Bool.and_eq_true, decide_eq_true_eq, decide_eq_true_eq]
    show _ ↔ 0 ≤ minI 0 r ∧ _
    rw [minI_ge]
    simp
  cases h : gd 0 w with
  | true => exact h1.mp h
  | false =>
    cases h2 : tests w with
    | false => rfl
    | true => rw [h1.mpr h2] at h; cases h
/-! ### the program's -/
def lett (s : Str) : Bool := s.cps.toList.all fun c => c == 117 || c == 100
theorem isin_c (c : Nat) (hc : c < 0x110000) : cm2 .isin (.str ⟨#[c]⟩) (.tuple [.str "u", .str "d"]) = some (c == 117 || c == 100) := by
  have e1 : (("u" : Str) == (⟨#[c]⟩ : Str)) = (c == 117) := by
    rw [t_u, lt, Bool.eq_iff_iff, beq_iff_eq, beq_iff_eq]
    constructor
    · intro h
      cases h
      rfl
    · intro h
      rw [h]
      rfl
  have e2 : (("d" : Str) == (⟨#[c]⟩ : Str)) = (c == 100) := by
    rw [t_d, lt, Bool.eq_iff_iff, beq_iff_eq, beq_iff_eq]
    constructor
    · intro h
      cases h
      rfl
    · intro h
      rw [h]
      rfl
  have o1 : PyData.strOk ⟨#[c]⟩ = true := by
    unfold PyData.strOk
    simp
    exact hc
  have o2 : PyData.strOk ("u" : Str) = true := by decide +kernel
  have o3 : PyData.strOk ("d" : Str) = true := by decide +kernel
  simp [cm2, SeqAt.shaped, PyData.canLay0, PyData.canLayAll0, PyData.depth, PyData.depthAll, PyData.eqv, e1, e2, o1, o2, o3]
/-- signs, all of them -/
def Sig (s : Str) : Prop := ∀ c ∈ s.cps.toList, c < 0x110000
theorem sig_tx (w : List Bool) : Sig (tx w) := by
  intro c hc
  rw [t_list] at hc
  obtain ⟨b, _, rfl⟩ := List.mem_map.mp hc
  cases b <;> decide
theorem lett_tx (w : List Bool) : lett (tx w) = true := by
  unfold lett
  rw [t_list, List.all_eq_true]
  intro c hc
  obtain ⟨b, _, rfl⟩ := List.mem_map.mp hc
  cases b <;> rfl
def fS (f : Nat → PyData) : PyData → PyData
  | .str z => f (z.cps.toList.headD 0)
  | _ => .none
section
variable (n : Nat)
theorem e_lett (O : Orc) (s : Str) (hg : Sig s) (hl : s.length ≤ 3000) : ev O (.lc (.cmp .isin (.var 1) (.tup (.cons (.str "u") (.cons (.str "d") .nil)))) (.name 1) (.data (.var 0)) .nil [1]) [some (.d (.str s)), none] = .ok (.val (.own (s.cps.toList.map fun c => .bool (c == 117 || c == 100)))) [some (.d (.str s)), none] := by
  have hl2 : s.cps.toList.length ≤ 3000 := by rw [Array.length_toList]; exact hl
  have z := x_lcm (O := O) (elt := .cmp .isin (.var 1) (.tup (.cons (.str "u") (.cons (.str "d") .nil)))) (p := 1) (it := .data (.var 0)) (e := [some (.d (.str s)), none]) (e1 := [some (.d (.str s)), none]) (xs := s.cps.toList.map fun c => .str ⟨#[c]⟩) (fS fun c => .bool (c == 117 || c == 100)) (by simp [items]) (noOwn1 fun xs => by simp) (by simp) (sz_lt (by rw [List.length_map]; omega)) fun x hx => by
    obtain ⟨c, hc, rfl⟩ := List.mem_map.mp hx
    simp [elF, isin_c c (hg c hc), fS]
  rw [z, List.map_map]
  rfl
theorem c_text (s : Str) (hg : Sig s) (hl : s.length ≤ 3000) : mo.cf (n + 1) 2 [.d (.str s)] = if s.length ≤ 2000 ∧ lett s = true then .ok (.d .none) none else .exc 0 := by
  rw [cf_eq mo n 2 _ f_check_text rfl]
  have ea := e_lett (Oc mo n) s hg hl
  have szl : s.length ≤ sizeLine := sz_of (by omega)
  have m2 : mulOk 2 1000 = true := by decide +kernel
  generalize hE : E.lc (.cmp .isin (.var 1) (.tup (.cons (.str "u") (.cons (.str "d") .nil)))) (.name 1) (.data (.var 0)) .nil [1] = el at *
  have e2 : (s.cps.toList.map fun c => (c == 117 || c == 100)).all id = lett s := by simp [List.all_map, lett]
  have e3 : boolsD (s.cps.toList.map fun c => .bool (c == 117 || c == 100)) = some (s.cps.toList.map fun c => (c == 117 || c == 100)) := bools_map _ _
  generalize (s.cps.toList.map fun c => PyData.bool (c == 117 || c == 100)) = A at *
  generalize (s.cps.toList.map fun c => (c == 117 || c == 100)) = B at *
  have ol : bltR .len [.str s] = some (.d (.int s.length)) := by
    show (if s.length ≤ sizeLine then some (DV.d (.int s.length)) else none) = _
    rw [if_pos szl]
  have c1 : evT (Oc mo n) (.ors (.cons (.cmp .gt (.blt .len (.cons (.var 0) .nil)) (.bin .mul (.int 2) (.glo 0))) (.cons (.nott (.tru (.blt .all (.cons el .nil)))) .nil))) [some (.d (.str s)), none] = .ok (!(decide (s.length ≤ 2000) && lett s)) [some (.d (.str s)), none] := by
    by_cases h1 : s.length ≤ 2000
    · have h2 : ¬ (2000 < (s.length : Int)) := by omega
      cases h3 : lett s with
      | true =>
        rw [h3] at e2
        simp [gl0, m2, ol, h1, h2, ea, e3, e2]
      | false =>
        rw [h3] at e2
        simp [gl0, m2, ol, h1, h2, ea, e3, e2]
    · have h2 : (2000 < (s.length : Int)) := by omega
      simp [gl0, m2, ol, h1, h2]
  by_cases h : s.length ≤ 2000 ∧ lett s = true
  · rw [if_pos h]
    refine (runF_nx (e0 := [some (.d (.str s)), none]) (e := [some (.d (.str s)), none]) rfl rfl rfl ?_).trans rfl
    subst hE
    refine run_cons (e1 := [some (.d (.str s)), none]) ?_ rfl
    rw [x_ifs, c1, decide_eq_true h.1, h.2]
    rfl
  · rw [if_neg h]
    refine runF_exc (e0 := [some (.d (.str s)), none]) rfl rfl rfl rfl ?_
    subst hE
    refine run_exc ?_
    have hb : (decide (s.length ≤ 2000) && lett s) = false := by
      rw [Bool.eq_false_iff]
      intro z
      rw [Bool.and_eq_true, decide_eq_true_eq] at z
      exact h z
    rw [x_ifs, c1, hb]
    rfl
abbrev vB : Ss := .cons (.app 1 (.bin .add (.idx (.var 1) (.neg (.int 1))) (.ife (.cmp .eq (.var 2) (.str "u")) (.int 1) (.neg (.int 1))))) .nil
theorem v_step (O : Orc) (a : Option DV) (V : List PyData) (w : Int) (b : Bool) (hs : V.length + 1 < sizeLine) : exSs O vB [a, some (.own (V ++ [.int w])), some (.d (.str (lt b)))] = .ok .nx [a, some (.own (V ++ [.int w] ++ [.int (w + sg b)])), some (.d (.str (lt b)))] := by
  have la : L2.atI (V ++ [PyData.int w]) (-1) = some (.int w) := at_last _ _
  cases b with
  | true =>
    have e1 : decide (lt true = ("u" : Str)) = true := by decide +kernel
    simp [la, hs, e1, sg]
  | false =>
    have e1 : decide (lt false = ("u" : Str)) = false := by decide +kernel
    simp [la, hs, e1, sg]
theorem v_loop (O : Orc) (a : Option DV) : ∀ (w v : List Bool) (o : Option DV), v.length + w.length ≤ 3000 → ∃ o', forL (.name 2) (exSs O vB) (w.map fun b => .str (lt b)) [a, some (.own ((lv 0 v).map .int)), o] = .ok .nx [a, some (.own ((lv 0 (v ++ w)).map .int)), o']
  | [], v, o, _ => ⟨o, by rw [List.append_nil]; rfl⟩
  | b :: w, v, o, h => by
    obtain ⟨V, h1, h2⟩ := lv_last v 0
    have st := v_step O a (V.map .int) (0 + hg v) b (by rw [List.length_map, h2]; exact sz_lt (by omega))
    have e1 : (lv 0 v).map PyData.int = V.map .int ++ [.int (0 + hg v)] := by rw [h1, List.map_append]; rfl
    have e2 : (lv 0 (v ++ [b])).map PyData.int = V.map .int ++ [.int (0 + hg v)] ++ [.int (0 + hg v + sg b)] := by rw [lv_snoc, List.map_append, e1]; rfl
    obtain ⟨o', ih⟩ := v_loop O a w (v ++ [b]) (some (.d (.str (lt b)))) (by rw [List.length_append]; simp at h ⊢; omega)
    refine ⟨o', ?_⟩
    rw [List.map_cons]
    unfold forL
    rw [show bindT (.name 2) (.str (lt b)) [a, some (.own ((lv 0 v).map .int)), o] = some [a, some (.own ((lv 0 v).map .int)), some (.d (.str (lt b)))] from rfl]
    dsimp only
    rw [e1, st, R.bind_ok]
    dsimp only
    rw [← e2, ih, List.append_assoc]
    rfl
theorem c_levels (w : List Bool) (hw : w.length ≤ 3000) : mo.cf (n + 1) 3 [.d (.str (tx w))] = .ok (.d (.list ((lv 0 w).map .int))) none := by
  rw [cf_eq mo n 3 _ f_levels rfl]
  obtain ⟨o, ho⟩ := v_loop (Oc mo n) (some (.d (.str (tx w)))) w [] none (by simpa using hw)
  rw [List.nil_append] at ho
  refine (runF_ret (v := .d (.list ((lv 0 w).map .int))) (e0 := [some (.d (.str (tx w))), none, none]) (e := [some (.d (.str (tx w))), some (.d (.list ((lv 0 w).map .int))), o]) rfl rfl rfl (run_cons (e1 := [some (.d (.str (tx w))), some (.own [.int 0]), none]) (by simp) (run_cons (e1 := [some (.d (.str (tx w))), some (.own ((lv 0 w).map .int)), o]) ?_ (run_ret ?_)))).trans rfl
  · have ei : evI (Oc mo n) (.data (.var 0)) [some (.d (.str (tx w))), some (.own [.int 0]), none] = .ok (w.map fun b => .str (lt b)) [some (.d (.str (tx w))), some (.own [.int 0]), none] := by
      have h := t_items w
      generalize tx w = T at *
      simp [h]
    rw [x_fors, ei, R.bind_ok]
    exact ho
  · generalize (lv 0 w).map PyData.int = A
    simp
theorem bMinL (xs : List PyData) {x : Int} {r : List Int} (h : intsD xs = some (x :: r)) : bltR .min [.list xs] = some (.d (.int (minI x r))) := by
  show bMin [.list xs] = _
  simp only [bMin, h]
theorem bMaxL (xs : List PyData) {x : Int} {r : List Int} (h : intsD xs = some (x :: r)) : bltR .max [.list xs] = some (.d (.int (maxI x r))) := by
  show bMax [.list xs] = _
  simp only [bMax, h]
theorem c_ism (w : List Bool) (hw : w.length ≤ 2000) : mo.cf (n + 2) 4 [.d (.str (tx w))] = .ok (.d (.bool (gd 0 w))) none := by
  rw [cf_eq mo (n + 1) 4 _ f_is_mountain rfl]
  have ct := c_text n (tx w) (sig_tx w) (by rw [t_len]; omega)
  rw [if_pos ⟨by rw [t_len]; exact hw, lett_tx w⟩] at ct
  have cl := c_levels n w (by omega)
  obtain ⟨r, hr⟩ := lv_cons w 0
  obtain ⟨V, h1, _⟩ := lv_last w 0
  have i1 : intsD ((lv 0 w).map .int) = some (0 :: r) := by rw [ints_map, hr]
  have i2 : L2.atI ((lv 0 w).map PyData.int) (-1) = some (.int (hg w)) := by
    rw [h1, List.map_append, Int.zero_add]
    exact at_last _ _
  have i3 := bMinL _ i1
  have tg : gd 0 w = (decide (0 ≤ minI 0 r) && decide (hg w = 0)) := by
    rw [← tests_gd]
    unfold tests
    rw [hr]
    rfl
  rw [tg]
  generalize (lv 0 w).map PyData.int = A at *
  generalize tx w = T at *
  refine (runF_ret (v := .d (.bool (decide (0 ≤ minI 0 r) && decide (hg w = 0)))) (e0 := [some (.d (.str T)), none]) (e := [some (.d (.str T)), some (.d (.list A))]) rfl rfl rfl (run_cons (e1 := [some (.d (.str T)), none]) ?_ (run_cons (e1 := [some (.d (.str T)), some (.d (.list A))]) ?_ (run_ret ?_)))).trans rfl
  · simp [ct]
  · simp [cl]
  · by_cases h : 0 ≤ minI 0 r
    · simp [i2, i3, h]
    · simp [i2, i3, h]
/-- no text of steps, or too long -/
theorem c_ism_no (s : Str) (hg : Sig s) (hl : s.length ≤ 3000) (h : ¬ (s.length ≤ 2000 ∧ lett s = true)) : mo.cf (n + 2) 4 [.d (.str s)] = .exc 0 := by
  rw [cf_eq mo (n + 1) 4 _ f_is_mountain rfl]
  have ct := c_text n s hg hl
  rw [if_neg h] at ct
  refine runF_exc (e0 := [some (.d (.str s)), none]) rfl rfl rfl rfl (run_exc ?_)
  simp [ct]
def isMt (s : Str) : Prop := ∃ w : List Bool, s = tx w ∧ w.length ≤ 2000 ∧ gd 0 w = true
theorem c_chk (w : List Bool) (hw : w.length ≤ 2000) : mo.cf (n + 3) 5 [.d (.str (tx w))] = if gd 0 w then .ok (.d .none) none else .exc 0 := by
  rw [cf_eq mo (n + 2) 5 _ f_check_mountain rfl]
  have ci := c_ism n w hw
  cases h : gd 0 w with
  | true =>
    rw [h] at ci
    generalize tx w = T at *
    refine (runF_nx (e0 := [some (.d (.str T))]) (e := [some (.d (.str T))]) rfl rfl rfl (run_cons (e1 := [some (.d (.str T))]) ?_ rfl)).trans rfl
    simp [ci]
  | false =>
    rw [h] at ci
    generalize tx w = T at *
    refine runF_exc (e0 := [some (.d (.str T))]) rfl rfl rfl rfl (run_exc ?_)
    simp [ci]
theorem c_chk_no (s : Str) (hg : Sig s) (hl : s.length ≤ 3000) (h : ¬ (s.length ≤ 2000 ∧ lett s = true)) : mo.cf (n + 3) 5 [.d (.str s)] = .exc 0 := by
  rw [cf_eq mo (n + 2) 5 _ f_check_mountain rfl]
  have ci := c_ism_no n s hg hl h
  refine runF_exc (e0 := [some (.d (.str s))]) rfl rfl rfl rfl (run_exc ?_)
  simp [ci]
end
end K04
/-! k04, plain: places. -/
namespace K04
open PySem Wd
abbrev oS (s : Str) : Option DV := some (.d (.str s))
theorem lt_d (b : Bool) : decide (lt b = ("d" : Str)) = !b := by cases b <;> decide +kernel
theorem lt_u (b : Bool) : decide (lt b = ("u" : Str)) = b := by cases b <;> decide +kernel
abbrev pB : Ss := .cons (.ifs (.cmp .eq (.var 4) (.str "d")) (.cons (.set 3 (.bin .add (.var 3) (.ife (.cmp .gt (.var 1) (.int 0)) (.call 7 (.cons (.bin .sub (.var 1) (.int 1)) (.cons (.var 2) .nil))) (.int 0)))) (.cons (.set 2 (.bin .sub (.var 2) (.int 1))) .nil)) (.cons (.set 1 (.bin .sub (.var 1) (.int 1))) .nil)) .nil
section
variable (n : Nat)
theorem p_step (t : Option DV) (u d f : Int) (b : Bool) (h : b = false → 0 < u → 0 ≤ u - 1 + d ∧ u - 1 + d ≤ 2000) : exSs (Oc mo (n + 2)) pB [t, iD u, iD d, iD f, oS (lt b)] = .ok .nx (if b then [t, iD (u - 1), iD d, iD f, oS (lt b)] else [t, iD u, iD (d - 1), iD (f + ah u d), oS (lt b)]) := by
  cases b with
  | true =>
    have e := lt_d true
    simp [e]
  | false =>
    have e := lt_d false
    by_cases h0 : 0 < u
    · obtain ⟨h1, h2⟩ := h rfl h0
      have ce := c_ends n (u - 1) d h1 h2
      have ea : ah u d = bal (u - 1) d := by unfold ah; rw [if_pos h0]
      rw [ea]
      generalize bal (u - 1) d = B at *
      simp [e, h0, ce]
    · have ea : ah u d = 0 := by unfold ah; rw [if_neg h0]
      rw [ea]
      simp [e, h0]
theorem p_loop (t : Option DV) : ∀ (w : List Bool) (u d f : Int) (o : Option DV), u = (w.count true : Nat) → d = (w.count false : Nat) → w.length ≤ 2000 → ∃ u' d' o', forL (.name 4) (exSs (Oc mo (n + 2)) pB) (w.map fun b => .str (lt b)) [t, iD u, iD d, iD f, o] = .ok .nx [t, u', d', iD (f + rk u d w), o']
  | [], u, d, f, o, _, _, _ => ⟨iD u, iD d, o, by rw [rk, Int.add_zero]; rfl⟩
  | b :: w, u, d, f, o, hu, hd, hl => by
    have lc : w.count true + w.count false = w.length := by
      clear hu hd hl
      induction w with
      | nil => rfl
      | cons b w ih => cases b <;> simp <;> omega
    have st := p_step n t u d f b (fun hb h0 => by
      subst hb
      simp at hu hd hl
      omega)
    rw [List.map_cons]
    unfold forL
    rw [show bindT (.name 4) (.str (lt b)) [t, iD u, iD d, iD f, o] = some [t, iD u, iD d, iD f, oS (lt b)] from rfl]
    dsimp only
    rw [st, R.bind_ok]
    dsimp only
    cases b with
    | true =>
      obtain ⟨u', d', o', ih⟩ := p_loop t w (u - 1) d f (oS (lt true)) (by simp at hu; omega) (by simp at hd; omega) (by simp at hl; omega)
      exact ⟨u', d', o', ih⟩
    | false =>
      obtain ⟨u', d', o', ih⟩ := p_loop t w u (d - 1) (f + ah u d) (oS (lt false)) (by simp at hu; omega) (by simp at hd; omega) (by simp at hl; omega)
      refine ⟨u', d', o', ?_⟩
      rw [show f + rk u d (false :: w) = f + ah u d + rk u (d - 1) w by rw [rk]; omega]
      exact ih
theorem gd_half {w : List Bool} (h : gd 0 w = true) : (w.count true : Nat) = w.length / 2 ∧ (w.count false : Nat) = w.length / 2 ∧ w.length = 2 * (w.length / 2) := by
  have h1 := ((gd_iff w 0).mp h).2
  rw [hg_count] at h1
  have lc : w.count true + w.count false = w.length := by
    clear h h1
    induction w with
    | nil => rfl
    | cons b w ih => cases b <;> simp <;> omega
  omega
theorem o_lens {s : Str} (h : s.length ≤ 100000) : bltR .len [.str s] = some (.d (.int s.length)) := by
  have szl : s.length ≤ sizeLine := sz_of (by omega)
  show (if s.length ≤ sizeLine then some (DV.d (.int s.length)) else none) = _
  rw [if_pos szl]
theorem div2 : divOk 2 = true := by decide +kernel
theorem q_half {O : Orc} {e : DEnv} {s : Str} (hl : s.length ≤ 100000) (h : e[0]? = some (oS s)) : ev O (.bin .fdiv (.blt .len (.cons (.var 0) .nil)) (.int 2)) e = .ok (.val (.d (.int ((s.length / 2 : Nat) : Int)))) e := by
  have ol := o_lens hl
  have e1 : (s.length : Int).fdiv 2 = ((s.length / 2 : Nat) : Int) := fdiv_nat s.length 2
  generalize hL : (s.length : Int) = Lz at *
  simp [h, ol, div2, e1]
/-- the place of a mountain -/
def plc (w : List Bool) : Int := rk ((w.length / 2 : Nat) : Int) ((w.length / 2 : Nat) : Int) w
theorem c_place (w : List Bool) (hw : w.length ≤ 2000) (hg : gd 0 w = true) : mo.cf (n + 4) 9 [.d (.str (tx w))] = .ok (.d (.int (plc w))) none := by
  rw [cf_eq mo (n + 3) 9 _ f_place_of rfl]
  have cc := c_chk n w hw
  rw [hg] at cc
  obtain ⟨g1, g2, g3⟩ := gd_half hg
  have tl := t_len w
  have ti := t_items w
  obtain ⟨u', d', o', lo⟩ := p_loop (n + 1) (oS (tx w)) w ((w.length / 2 : Nat) : Int) ((w.length / 2 : Nat) : Int) 0 none (by rw [g1]) (by rw [g2]) hw
  rw [Int.zero_add] at lo
  unfold plc
  generalize rk ((w.length / 2 : Nat) : Int) ((w.length / 2 : Nat) : Int) w = P at *
  generalize hT : tx w = T at *
  have qh : ∀ (e : DEnv), e[0]? = some (oS T) → ev (Oc mo (n + 3)) (.bin .fdiv (.blt .len (.cons (.var 0) .nil)) (.int 2)) e = .ok (.val (.d (.int ((w.length / 2 : Nat) : Int)))) e := fun e h => by
    have := q_half (O := Oc mo (n + 3)) (e := e) (s := T) (by omega) h
    rw [tl] at this
    exact this
  generalize ((w.length / 2 : Nat) : Int) = H at *
  refine (runF_ret (v := .d (.int P)) (e0 := [oS T, none, none, none, none]) (e := [oS T, u', d', iD P, o']) rfl rfl rfl (run_cons (e1 := [oS T, none, none, none, none]) (by simp [cc]) (run_cons (e1 := [oS T, iD H, iD H, iD 0, none]) ?_ (run_cons (e1 := [oS T, u', d', iD P, o']) ?_ (run_ret ?_))))).trans rfl
  · rw [x_par, x_vcons, qh _ rfl, R.bind_ok]
    dsimp only [x_tak1]
    rw [x_vcons, qh _ rfl, R.bind_ok]
    rfl
  · have ei : evI (Oc mo (n + 3)) (.data (.var 0)) [oS T, iD H, iD H, iD 0, none] = .ok (w.map fun b => .str (lt b)) [oS T, iD H, iD H, iD 0, none] := by simp [ti]
    rw [x_fors, ei, R.bind_ok]
    exact lo
  · simp
/-! ### the mountain at a place -/
abbrev mB : Ss := .cons (.set 5 (.ife (.cmp .gt (.var 2) (.int 0)) (.call 7 (.cons (.bin .sub (.var 2) (.int 1)) (.cons (.var 3) .nil))) (.int 0))) (.cons (.ifs (.cmp .lt (.var 1) (.var 5)) (.cons (.par [4, 2] (.cons (.bin .add (.var 4) (.str "u")) (.cons (.bin .sub (.var 2) (.int 1)) .nil))) .nil) (.cons (.par [4, 3, 1] (.cons (.bin .add (.var 4) (.str "d")) (.cons (.bin .sub (.var 3) (.int 1)) (.cons (.bin .sub (.var 1) (.var 5)) .nil)))) .nil)) .nil)
theorem m_step (M : Option DV) (u d p : Int) (s : Str) (o : Option DV) (h1 : 0 ≤ d) (h2 : u + d ≤ 2000) (hs : s.length ≤ 3000) : exSs (Oc mo (n + 2)) mB [M, iD p, iD u, iD d, oS s, o] = .ok .nx (if p < ah u d then [M, iD p, iD (u - 1), iD d, oS (s ++ lt true), iD (ah u d)] else [M, iD (p - ah u d), iD u, iD (d - 1), oS (s ++ lt false), iD (ah u d)]) := by
  have ea : exS (Oc mo (n + 2)) (.set 5 (.ife (.cmp .gt (.var 2) (.int 0)) (.call 7 (.cons (.bin .sub (.var 2) (.int 1)) (.cons (.var 3) .nil))) (.int 0))) [M, iD p, iD u, iD d, oS s, o] = .ok .nx [M, iD p, iD u, iD d, oS s, iD (ah u d)] := by
    by_cases h0 : 0 < u
    · by_cases h3 : 0 ≤ u - 1 + d
      · have ce := c_ends n (u - 1) d h3 (by omega)
        have ea : ah u d = bal (u - 1) d := by unfold ah; rw [if_pos h0]
        rw [ea]
        generalize bal (u - 1) d = B at *
        simp [h0, ce]
      · omega
    · have ea : ah u d = 0 := by unfold ah; rw [if_neg h0]
      rw [ea]
      simp [h0]
  refine run_cons ea ?_
  have l1 : s.length + ("u" : Str).length ≤ sizeLine := by
    have : ("u" : Str).length = 1 := by decide +kernel
    rw [this]
    exact sz_of (by omega)
  have l2 : s.length + ("d" : Str).length ≤ sizeLine := by
    have : ("d" : Str).length = 1 := by decide +kernel
    rw [this]
    exact sz_of (by omega)
  rw [← t_u, ← t_d]
  generalize ah u d = A at *
  by_cases h : p < A
  · simp [h, l1]
  · simp [h, l2]
theorem m_loop (M : Option DV) : ∀ (m : Nat) (u d p : Int) (v : List Bool) (o : Option DV) (fuel : Nat), u + d = m → 0 ≤ u → u ≤ d → 0 ≤ p → p < bal u d → m ≤ 2000 → v.length + m ≤ 2000 → m + 1 ≤ fuel →
    ∃ a b c o', whL (evT (Oc mo (n + 2)) (.cmp .gt (.bin .add (.var 2) (.var 3)) (.int 0))) (exSs (Oc mo (n + 2)) mB) fuel [M, iD p, iD u, iD d, oS (tx v), o] = .ok .nx [M, a, b, c, oS (tx (v ++ un m u d p)), o']
  | 0, u, d, p, v, o, fuel, hm, hu, hd, hp, hb, hz, hv, hf => by
    obtain ⟨f, rfl⟩ : ∃ f, fuel = f + 1 := ⟨fuel - 1, by omega⟩
    have e0 : ¬ (0 < u + d) := by omega
    refine ⟨iD p, iD u, iD d, o, ?_⟩
    rw [un, List.append_nil]
    generalize tx v = T
    have c0 : evT (Oc mo (n + 2)) (.cmp .gt (.bin .add (.var 2) (.var 3)) (.int 0)) [M, iD p, iD u, iD d, oS T, o] = .ok false [M, iD p, iD u, iD d, oS T, o] := by simp [e0]
    unfold whL
    rw [c0]
    rfl
  | m + 1, u, d, p, v, o, fuel, hm, hu, hd, hp, hb, hz, hv, hf => by
    obtain ⟨f, rfl⟩ : ∃ f, fuel = f + 1 := ⟨fuel - 1, by omega⟩
    have e0 : 0 < u + d := by omega
    have uc := un_cases hm hu hd hp hb
    have st := m_step n M u d p (tx v) o (by omega) (by omega) (by rw [t_len]; omega)
    have c0 : evT (Oc mo (n + 2)) (.cmp .gt (.bin .add (.var 2) (.var 3)) (.int 0)) [M, iD p, iD u, iD d, oS (tx v), o] = .ok true [M, iD p, iD u, iD d, oS (tx v), o] := by
      generalize tx v = T
      simp [e0]
    rw [un]
    unfold whL
    rw [c0, R.bind_ok, if_pos rfl, st, R.bind_ok]
    dsimp only
    by_cases h : p < ah u d
    · rw [if_pos h, if_pos h]
      obtain ⟨h1, h2⟩ := uc.1 h
      obtain ⟨a, b, c, o', ih⟩ := m_loop M m (u - 1) d p (v ++ [true]) (iD (ah u d)) f (by omega) (by omega) (by omega) hp h2 (by omega) (by rw [List.length_append]; simp; omega) (by omega)
      refine ⟨a, b, c, o', ?_⟩
      rw [t_1, t_app, ih, List.append_assoc]
      rfl
    · rw [if_neg h, if_neg h]
      obtain ⟨h1, h2, h3⟩ := uc.2 h
      obtain ⟨a, b, c, o', ih⟩ := m_loop M m u (d - 1) (p - ah u d) (v ++ [false]) (iD (ah u d)) f (by omega) hu h1 h2 h3 (by omega) (by rw [List.length_append]; simp; omega) (by omega)
      refine ⟨a, b, c, o', ?_⟩
      rw [t_1, t_app, ih, List.append_assoc]
      rfl
/-- so many steps up and down, the place -/
def unp (k : Nat) (p : Int) : List Bool := un (2 * k) k k p
theorem c_at (k : Nat) (p : Int) (hk : k ≤ 1000) : mo.cf (n + 4) 10 [.d (.int k), .d (.int p)] = if 0 ≤ p ∧ p < bal k k then .ok (.d (.str (tx (unp k p)))) none else .exc 2 := by
  rw [cf_eq mo (n + 3) 10 _ f_mountain_at rfl]
  have ch := c_half (n + 2) (k : Int)
  rw [if_pos ⟨by omega, by omega⟩] at ch
  have cc := c_count (n + 1) (k : Int)
  rw [if_pos ⟨by omega, by omega⟩] at cc
  have s1 : exS (Oc mo (n + 3)) (.expr (.call 1 (.cons (.var 0) .nil))) [iD k, iD p, none, none, none, none] = .ok .nx [iD k, iD p, none, none, none, none] := by simp [ch]
  have c1 : evT (Oc mo (n + 3)) (.nott (.chain .le .lt (.int 0) (.var 1) (.call 6 (.cons (.var 0) .nil)))) [iD k, iD p, none, none, none, none] = .ok (!(decide (0 ≤ p) && decide (p < bal k k))) [iD k, iD p, none, none, none, none] := by
    generalize bal (k : Int) (k : Int) = B at *
    by_cases h : 0 ≤ p
    · simp [h, cc]
    · simp [h]
  by_cases h : 0 ≤ p ∧ p < bal k k
  · rw [if_pos h]
    obtain ⟨a, b, c, o, lo⟩ := m_loop (n + 1) (iD k) (2 * k) k k p [] none fuelW (by omega) (by omega) (by omega) h.1 h.2 (by omega) (by simp; omega) (by unfold fuelW; omega)
    rw [List.nil_append, ← t_0] at lo
    unfold unp
    refine (runF_ret (v := .d (.str (tx (un (2 * k) k k p)))) (e0 := [iD k, iD p, none, none, none, none]) (e := [iD k, a, b, c, oS (tx (un (2 * k) k k p)), o]) rfl rfl rfl (run_cons s1 (run_cons (e1 := [iD k, iD p, none, none, none, none]) ?_ (run_cons (e1 := [iD k, iD p, iD k, iD k, oS "", none]) ?_ (run_cons (e1 := [iD k, a, b, c, oS (tx (un (2 * k) k k p)), o]) ?_ (run_ret ?_)))))).trans rfl
    · rw [x_ifs, c1, decide_eq_true h.1, decide_eq_true h.2]
      rfl
    · simp
    · rw [x_whl]
      exact lo
    · generalize tx (un (2 * k) k k p) = T
      simp
  · rw [if_neg h]
    refine runF_exc (e0 := [iD k, iD p, none, none, none, none]) rfl rfl rfl rfl (run_cons s1 (run_exc ?_))
    have hb : (decide (0 ≤ p) && decide (p < bal k k)) = false := by
      rw [Bool.eq_false_iff]
      intro z
      rw [Bool.and_eq_true, decide_eq_true_eq, decide_eq_true_eq] at z
      exact h z
    rw [x_ifs, c1, hb]
    rfl
theorem c_next (w : List Bool) (hw : w.length ≤ 2000) (hg : gd 0 w = true) : mo.cf (n + 5) 11 [.d (.str (tx w))] = if plc w + 1 = bal ((w.length / 2 : Nat) : Int) ((w.length / 2 : Nat) : Int) then .exc 2 else if 0 ≤ plc w + 1 ∧ plc w + 1 < bal ((w.length / 2 : Nat) : Int) ((w.length / 2 : Nat) : Int) then .ok (.d (.str (tx (unp (w.length / 2) (plc w + 1))))) none else .exc 2 := by
  rw [cf_eq mo (n + 4) 11 _ f_next_mountain rfl]
  have cc := c_chk (n + 1) w hw
  rw [hg] at cc
  have cp := c_place n w hw hg
  have cn := c_count (n + 2) ((w.length / 2 : Nat) : Int)
  rw [if_pos ⟨by omega, by omega⟩] at cn
  have ca := c_at n (w.length / 2) (plc w + 1) (by omega)
  have tl := t_len w
  generalize plc w = P at *
  generalize hT : tx w = T at *
  have qh : ∀ (e : DEnv), e[0]? = some (oS T) → ev (Oc mo (n + 4)) (.bin .fdiv (.blt .len (.cons (.var 0) .nil)) (.int 2)) e = .ok (.val (.d (.int ((w.length / 2 : Nat) : Int)))) e := fun e h => by
    have := q_half (O := Oc mo (n + 4)) (e := e) (s := T) (by omega) h
    rw [tl] at this
    exact this
  have q1 := qh [oS T, iD P] rfl
  generalize hH : w.length / 2 = H at *
  generalize bal (H : Int) (H : Int) = B at *
  have s1 : exS (Oc mo (n + 4)) (.expr (.call 5 (.cons (.var 0) .nil))) [oS T, none] = .ok .nx [oS T, none] := by simp [cc]
  have s2 : exS (Oc mo (n + 4)) (.set 1 (.call 9 (.cons (.var 0) .nil))) [oS T, none] = .ok .nx [oS T, iD P] := by simp [cp]
  generalize hE : E.bin .fdiv (.blt .len (.cons (.var 0) .nil)) (.int 2) = el at *
  by_cases h1 : P + 1 = B
  · rw [if_pos h1]
    refine runF_exc (e0 := [oS T, none]) rfl rfl rfl rfl (run_cons s1 (run_cons s2 (run_exc ?_)))
    show exS (Oc mo (n + 4)) (.ifs (.cmp .eq (.bin .add (.var 1) (.int 1)) (.call 6 (.cons (.bin .fdiv (.blt .len (.cons (.var 0) .nil)) (.int 2)) .nil))) (.cons (.rais 2) .nil) .nil) [oS T, iD P] = .exc 2
    rw [hE]
    simp [q1, cn, h1]
  · rw [if_neg h1]
    have s3 : exS (Oc mo (n + 4)) (.ifs (.cmp .eq (.bin .add (.var 1) (.int 1)) (.call 6 (.cons (.bin .fdiv (.blt .len (.cons (.var 0) .nil)) (.int 2)) .nil))) (.cons (.rais 2) .nil) .nil) [oS T, iD P] = .ok .nx [oS T, iD P] := by
      rw [hE]
      simp [q1, cn, h1]
    by_cases h2 : 0 ≤ P + 1 ∧ P + 1 < B
    · rw [if_pos h2] at ca ⊢
      refine (runF_ret (e0 := [oS T, none]) (e := [oS T, iD P]) rfl rfl rfl (run_cons s1 (run_cons s2 (run_cons s3 (run_ret ?_))))).trans rfl
      show exS (Oc mo (n + 4)) (.ret (.call 10 (.cons (.bin .fdiv (.blt .len (.cons (.var 0) .nil)) (.int 2)) (.cons (.bin .add (.var 1) (.int 1)) .nil)))) [oS T, iD P] = _
      rw [hE]
      generalize tx (unp H (P + 1)) = Z at *
      simp [q1, ca]
    · rw [if_neg h2] at ca ⊢
      refine runF_exc (e0 := [oS T, none]) rfl rfl rfl rfl (run_cons s1 (run_cons s2 (run_cons s3 (run_exc ?_))))
      show exS (Oc mo (n + 4)) (.ret (.call 10 (.cons (.bin .fdiv (.blt .len (.cons (.var 0) .nil)) (.int 2)) (.cons (.bin .add (.var 1) (.int 1)) .nil)))) [oS T, iD P] = _
      rw [hE]
      simp [q1, ca]
end
end K04
/-! k04, plain: what is read off a mountain; counts. -/
namespace K04
open PySem Wd
section
variable (n : Nat) (w : List Bool) (hw : w.length ≤ 2000) (hg : gd 0 w = true)
theorem s_chk (e : DEnv) (s : Str) (h : e[0]? = some (oS s)) (cc : mo.cf (n + 3) 5 [.d (.str s)] = .ok (.d .none) none) : exS (Oc mo (n + 3)) (.expr (.call 5 (.cons (.var 0) .nil))) e = .ok .nx e := by
  simp [h, cc]
def pk (w : List Bool) : Int := Txt.count (tx w) "ud"
include hw hg in
theorem c_peaks : mo.cf (n + 4) 12 [.d (.str (tx w))] = .ok (.d (.int (pk w))) none := by
  rw [cf_eq mo (n + 3) 12 _ f_peaks rfl]
  have cc := c_chk n w hw
  rw [hg] at cc
  unfold pk
  generalize tx w = T at *
  refine (runF_ret (e0 := [oS T]) (e := [oS T]) rfl rfl rfl (run_cons (s_chk n _ T rfl cc) (run_ret ?_))).trans rfl
  simp [mth1]
def mxl (w : List Bool) : Int := maxI 0 (lv 0 w).tail
include hw hg in
theorem c_height : mo.cf (n + 4) 13 [.d (.str (tx w))] = .ok (.d (.int (mxl w))) none := by
  rw [cf_eq mo (n + 3) 13 _ f_height rfl]
  have cc := c_chk n w hw
  rw [hg] at cc
  have cl := c_levels (n + 2) w (by omega)
  obtain ⟨r, hr⟩ := lv_cons w 0
  have i1 : intsD ((lv 0 w).map .int) = some (0 :: r) := by rw [ints_map, hr]
  have i3 := bMaxL _ i1
  have em : mxl w = maxI 0 r := by unfold mxl; rw [hr]; rfl
  rw [em]
  generalize (lv 0 w).map PyData.int = A at *
  generalize tx w = T at *
  refine (runF_ret (e0 := [oS T]) (e := [oS T]) rfl rfl rfl (run_cons (s_chk n _ T rfl cc) (run_ret ?_))).trans rfl
  simp [cl, i3]
def ret0 (w : List Bool) : Int := (((lv 0 w).drop 1).count 0 : Nat)
include hw hg in
theorem c_returns : mo.cf (n + 4) 14 [.d (.str (tx w))] = .ok (.d (.int (ret0 w))) none := by
  rw [cf_eq mo (n + 3) 14 _ f_returns rfl]
  have cc := c_chk n w hw
  rw [hg] at cc
  have cl := c_levels (n + 2) w (by omega)
  have e1 : cutD ((lv 0 w).map PyData.int) (some 1) none = ((lv 0 w).drop 1).map .int := by
    rw [List.map_drop]
    exact cut_from _ 1 (by rw [List.length_map, lv_len]; omega)
  have e2 : mthL .count (.list (((lv 0 w).drop 1).map .int)) (.int 0) = some (.d (.int (((lv 0 w).drop 1).count 0 : Nat))) := by
    show (intsD (((lv 0 w).drop 1).map .int)).map _ = _
    rw [ints_map]
    rfl
  unfold ret0
  rw [← e1] at e2
  generalize ((((lv 0 w).drop 1).count 0 : Nat) : Int) = Z at *
  generalize (lv 0 w).map PyData.int = A at *
  generalize tx w = T at *
  refine (runF_ret (e0 := [oS T]) (e := [oS T]) rfl rfl rfl (run_cons (s_chk n _ T rfl cc) (run_ret ?_))).trans rfl
  simp [cl, e2]
include hw hg in
theorem c_area : mo.cf (n + 4) 15 [.d (.str (tx w))] = .ok (.d (.int (lv 0 w).sum)) none := by
  rw [cf_eq mo (n + 3) 15 _ f_area rfl]
  have cc := c_chk n w hw
  rw [hg] at cc
  have cl := c_levels (n + 2) w (by omega)
  have i1 : bltR .sum [.list ((lv 0 w).map .int)] = some (.d (.int (lv 0 w).sum)) := by
    rw [o_suml, ints_map]
    rfl
  generalize (lv 0 w).sum = Z at *
  generalize (lv 0 w).map PyData.int = A at *
  generalize tx w = T at *
  refine (runF_ret (e0 := [oS T]) (e := [oS T]) rfl rfl rfl (run_cons (s_chk n _ T rfl cc) (run_ret ?_))).trans rfl
  simp [cl, i1, -o_suml]
/-- where it comes back first -/
def fst0 (w : List Bool) : Option Nat := ((lv 0 w).drop 1).findIdx? fun z => z == 0
include hw hg in
theorem c_first0 (h0 : w = []) : mo.cf (n + 4) 19 [.d (.str (tx w))] = .exc 2 := by
  rw [cf_eq mo (n + 3) 19 _ f_first_part rfl]
  have cc := c_chk n w hw
  rw [hg] at cc
  have tl : (tx w).length = 0 := by rw [t_len, h0]; rfl
  have ol := o_lens (s := tx w) (by omega)
  rw [tl] at ol
  generalize tx w = T at *
  refine runF_exc (e0 := [oS T, none]) rfl rfl rfl rfl (run_cons (s_chk n _ T rfl cc) (run_exc ?_))
  simp [ol]
theorem shaped_ints (A : List Int) : SeqAt.shaped (.list (A.map .int)) = true := by
  have h : ∀ A : List Int, PyData.canLayAll0 (A.map PyData.int) = true ∧ PyData.depthAll (A.map PyData.int) = 0 := by
    intro A
    induction A with
    | nil => simp [PyData.canLayAll0, PyData.depthAll]
    | cons a A ih => simp [PyData.canLayAll0, PyData.depthAll, PyData.canLay0, PyData.depth, ih.1, ih.2]
  simp [SeqAt.shaped, PyData.canLay0, PyData.depth, (h A).1, (h A).2]
theorem idx_ints (A : List Int) : (A.map PyData.int).findIdx? (fun z => PyData.eqv z (.int 0)) = A.findIdx? fun z => z == 0 := by
  induction A with
  | nil => rfl
  | cons a A ih =>
    rw [List.map_cons, List.findIdx?_cons, List.findIdx?_cons, ih]
    have : PyData.eqv (.int a) (.int 0) = (a == 0) := by simp [PyData.eqv]
    rw [this]
include hw hg in
theorem c_first (j : Nat) (h0 : w ≠ []) (hj : fst0 w = some j) : mo.cf (n + 4) 19 [.d (.str (tx w))] = .ok (.d (.tuple [.str (tx (cutB w (some 1) (some ((j : Int) + 1 - 1)))), .str (tx (cutB w (some ((j : Int) + 1)) none))])) none := by
  rw [cf_eq mo (n + 3) 19 _ f_first_part rfl]
  have cc := c_chk n w hw
  rw [hg] at cc
  have cl := c_levels (n + 2) w (by omega)
  have ol := o_lens (s := tx w) (by rw [t_len]; omega)
  have hl : ¬ ((tx w).length : Int) = 0 := by
    rw [t_len]
    intro h
    exact h0 (List.eq_nil_of_length_eq_zero (by omega))
  have e1 : cutD ((lv 0 w).map PyData.int) (some 1) none = ((lv 0 w).drop 1).map .int := by
    rw [List.map_drop]
    exact cut_from _ 1 (by rw [List.length_map, lv_len]; omega)
  have e2 : mthL .index (.list (((lv 0 w).drop 1).map .int)) (.int 0) = some (.d (.int (j : Nat))) := by
    have s0 : SeqAt.shaped (.int 0) = true := by decide +kernel
    show (if (SeqAt.shaped (.list (((lv 0 w).drop 1).map .int)) && SeqAt.shaped (.int 0)) = true then _ else _) = _
    have tt : (true && true) = true := rfl
    rw [shaped_ints, s0, if_pos tt, idx_ints]
    unfold fst0 at hj
    rw [hj]
    rfl
  have tc1 := t_cut w (some 1) (some ((j : Int) + 1 - 1))
  have tc2 := t_cut w (some ((j : Int) + 1)) none
  rw [← tc1, ← tc2]
  rw [← e1] at e2
  have szl : (tx w).length ≤ sizeLine := sz_of (by rw [t_len]; omega)
  clear tc1 tc2 hj
  generalize (lv 0 w).map PyData.int = A at *
  generalize tx w = T at *
  generalize hLz : (T.length : Int) = Lz at *
  have sl : ∀ lo hi, slcd (.str T) lo hi = some (.d (.str (L2.cutS T lo hi))) := fun lo hi => by
    show (if T.length ≤ sizeLine then some (DV.d (.str (L2.cutS T lo hi))) else none) = _
    rw [if_pos szl]
  refine (runF_ret (e0 := [oS T, none]) (e := [oS T, iD ((j : Int) + 1)]) rfl rfl rfl (run_cons (s_chk n _ T rfl cc) (run_cons (e1 := [oS T, none]) ?_ (run_cons (e1 := [oS T, iD ((j : Int) + 1)]) ?_ (run_ret ?_))))).trans rfl
  · simp [ol, hl]
  · simp [cl, e2]
  · generalize (j : Int) + 1 = J at *
    simp [sl]
theorem sum_lt : ∀ v : List Bool, ((v.map lt).map (·.length)).sum = v.length
  | [] => rfl
  | b :: v => by
    rw [List.map_cons, List.map_cons, List.sum_cons, sum_lt v, List.length_cons]
    have : (lt b).length = 1 := rfl
    rw [this]
    omega
theorem e_join (O : Orc) (e : DEnv) (el : E) (v : List Bool) (hl : v.length ≤ 3000) (h : ev O el e = .ok (.val (.own (v.map fun b => .str (lt b)))) e) : ev O (.m1 .join (.str "") el) e = .ok (.val (.d (.str (tx v)))) e := by
  have e0 : ("" : Str).length = 0 := by decide +kernel
  have e1 : mth1 .join "" (.list (v.map fun b => .str (lt b))) = some (.d (.str (tx v))) := by
    simp only [mth1, o_seql, Option.bind_some, strs_map]
    rw [if_pos (by rw [sum_lt, e0]; omega), t_join]
  generalize tx v = T at *
  generalize (v.map fun b => PyData.str (lt b)) = A at *
  simp [h, e1]
def fB (f : Str → PyData) : PyData → PyData
  | .str z => f z
  | _ => .none
theorem map_fB (f : Bool → PyData) (g : Str → PyData) (h : ∀ b, g (lt b) = f b) (v : List Bool) : (v.map fun b => PyData.str (lt b)).map (fB g) = v.map f := by
  rw [List.map_map]
  apply List.map_congr_left
  intro b _
  exact h b
theorem e_flip (O : Orc) (e : DEnv) (e1 : DEnv) (el : I) (p : Nat) (v : List Bool) (hp : p < e1.length) (hn : noOwn e1 [p] = true) (hl : v.length ≤ 3000) (h : evI O el e = .ok (v.map fun b => .str (lt b)) e1) : ev O (.lc (.ife (.cmp .eq (.var p) (.str "d")) (.str "u") (.str "d")) (.name p) el .nil [p]) e = .ok (.val (.own ((v.map (!·)).map fun b => .str (lt b)))) e1 := by
  have z := x_lcm (O := O) (elt := .ife (.cmp .eq (.var p) (.str "d")) (.str "u") (.str "d")) (p := p) (fB fun z => if z = ("d" : Str) then .str "u" else .str "d") h hn hp (sz_lt (by rw [List.length_map]; omega)) fun x hx => by
    obtain ⟨b, _, rfl⟩ := List.mem_map.mp hx
    have g1 : (e1.set p (oS (lt b)))[p]? = some (oS (lt b)) := List.getElem?_set_self hp
    have e2 : cm2 .eq (.str (lt b)) (.str "d") = some (!b) := by
      show some (decide (lt b = ("d" : Str))) = _
      rw [lt_d]
    have e3 : decide (lt b = ("d" : Str)) = !b := lt_d b
    cases b with
    | true =>
      have e4 : ¬ lt true = ("d" : Str) := of_decide_eq_false e3
      simp [elF, g1, e2, fB, e4, -o_eqs]
    | false =>
      have e4 : lt false = ("d" : Str) := of_decide_eq_true e3
      generalize lt false = Z at *
      simp [elF, g1, e2, fB, -o_eqs]
      simp [e4]
  rw [map_fB (fun b => .str (lt (!b))) _ (fun b => ?_)] at z
  · rw [z, List.map_map]
    rfl
  · cases b with
    | true =>
      rw [if_neg (of_decide_eq_false (lt_d true)), t_d]
      rfl
    | false =>
      rw [if_pos (of_decide_eq_true (lt_d false)), t_u]
      rfl
theorem rev_tx (w : List Bool) (hl : w.length ≤ 3000) : revD (.str (tx w)) = some (.d (.str (tx w.reverse))) := by
  show (if (tx w).length ≤ sizeLine then some (DV.d (.str ⟨(tx w).cps.toList.reverse.toArray⟩)) else none) = _
  rw [if_pos (sz_of (by rw [t_len]; omega)), t_rev]
def flip (w : List Bool) : List Bool := w.reverse.map (!·)
include hw hg in
theorem c_turned : mo.cf (n + 4) 20 [.d (.str (tx w))] = .ok (.d (.str (tx (flip w)))) none := by
  rw [cf_eq mo (n + 3) 20 _ f_turned rfl]
  have cc := c_chk n w hw
  rw [hg] at cc
  have rt := rev_tx w (by omega)
  have ti := t_items w.reverse
  have ei : evI (Oc mo (n + 3)) (.data (.rev (.var 0))) [oS (tx w), none] = .ok (w.reverse.map fun b => .str (lt b)) [oS (tx w), none] := by
    generalize tx w.reverse = T' at *
    generalize tx w = T at *
    simp [rt, ti]
  have ef := e_flip (Oc mo (n + 3)) [oS (tx w), none] [oS (tx w), none] (.data (.rev (.var 0))) 1 w.reverse (by simp) (noOwn1 fun xs => by simp) (by rw [List.length_reverse]; omega) ei
  have ej := e_join (Oc mo (n + 3)) _ _ (flip w) (by unfold flip; rw [List.length_map, List.length_reverse]; omega) ef
  refine (runF_ret (e0 := [oS (tx w), none]) (e := [oS (tx w), none]) rfl rfl rfl (run_cons (s_chk n _ (tx w) rfl cc) (run_ret ?_))).trans rfl
  rw [x_ret, ej]
  rfl
end
/-! ### counts -/
section
variable (n : Nat)
def cPk (k : Nat) (few : Int) : Int := if k = 0 then (if few = 0 then 1 else 0) else (chI k few * chI k (few - 1)).fdiv k
theorem c_cpeaks (k : Nat) (few : Int) (hk : k ≤ 1000) : mo.cf (n + 2) 16 [.d (.int k), .d (.int few)] = .ok (.d (.int (cPk k few))) none := by
  rw [cf_eq mo (n + 1) 16 _ f_count_peaks rfl]
  have ch := c_half n (k : Int)
  rw [if_pos ⟨by omega, by omega⟩] at ch
  have s1 : exS (Oc mo (n + 1)) (.expr (.call 1 (.cons (.var 0) .nil))) [iD k, iD few] = .ok .nx [iD k, iD few] := by simp [ch]
  unfold cPk
  by_cases h0 : k = 0
  · rw [if_pos h0]
    have hK : (k : Int) = 0 := by omega
    generalize (k : Int) = K at *
    refine (runF_ret (v := .d (.int (if few = 0 then 1 else 0))) (e0 := [iD K, iD few]) (e := [iD K, iD few]) rfl rfl rfl (run_cons s1 (run_ret ?_))).trans rfl
    by_cases h1 : few = 0
    · simp [h1, hK]
    · simp [h1, hK]
  · rw [if_neg h0]
    have c1 := c_choose n k few (by omega)
    have c2 := c_choose n k (few - 1) (by omega)
    have b1 := ch_bd k few (by omega)
    have b2 := ch_bd k (few - 1) (by omega)
    have m1 := b1.mulOk b2 (by omega)
    have b3 : Bd 20 (k : Int) := Bd.of (by omega) (by omega)
    have d1 := b3.divOk (by omega) (by omega)
    generalize chI k few = A at *
    generalize chI k (few - 1) = B at *
    have h0' : ¬ (k : Int) = 0 := by omega
    generalize (k : Int) = K at *
    refine (runF_ret (e0 := [iD K, iD few]) (e := [iD K, iD few]) rfl rfl rfl (run_cons s1 (run_cons (e1 := [iD K, iD few]) ?_ (run_ret ?_)))).trans rfl
    · simp [h0']
    · simp [c1, c2, m1, d1]
def cRt (k : Nat) (few : Int) : Int := if k = 0 then (if few = 0 then 1 else 0) else if 1 ≤ few ∧ few ≤ k then (few * chI (2 * k - few).toNat k).fdiv (2 * k - few) else 0
theorem c_creturns (k : Nat) (few : Int) (hk : k ≤ 1000) : mo.cf (n + 2) 17 [.d (.int k), .d (.int few)] = .ok (.d (.int (cRt k few))) none := by
  rw [cf_eq mo (n + 1) 17 _ f_count_returns rfl]
  have ch := c_half n (k : Int)
  rw [if_pos ⟨by omega, by omega⟩] at ch
  have s1 : exS (Oc mo (n + 1)) (.expr (.call 1 (.cons (.var 0) .nil))) [iD k, iD few] = .ok .nx [iD k, iD few] := by simp [ch]
  unfold cRt
  by_cases h0 : k = 0
  · rw [if_pos h0]
    have hK : (k : Int) = 0 := by omega
    generalize (k : Int) = K at *
    refine (runF_ret (v := .d (.int (if few = 0 then 1 else 0))) (e0 := [iD K, iD few]) (e := [iD K, iD few]) rfl rfl rfl (run_cons s1 (run_ret ?_))).trans rfl
    by_cases h1 : few = 0
    · simp [h1, hK]
    · simp [h1, hK]
  · rw [if_neg h0]
    have h0' : ¬ (k : Int) = 0 := by omega
    by_cases h : 1 ≤ few ∧ few ≤ k
    · rw [if_pos h]
      obtain ⟨h1, h2⟩ := h
      have c1 := c_choose n (2 * k - few).toNat k (by omega)
      rw [show (((2 * (k : Int) - few).toNat : Nat) : Int) = 2 * (k : Int) - few by omega] at c1
      have b1 := ch_bd (2 * (k : Int) - few).toNat k (by omega)
      have b2 : Bd 20 few := Bd.of (by omega) (by omega)
      have m1 := b2.mulOk b1 (by omega)
      have m2 : mulOk 2 (k : Int) = true := Bd.mulOk (k := 20) (l := 20) (by unfold Bd; decide) (Bd.of (by omega) (by omega)) (by omega)
      have b3 : Bd 20 (2 * (k : Int) - few) := Bd.of (by omega) (by omega)
      have d1 := b3.divOk (by omega) (by omega)
      generalize chI (2 * (k : Int) - few).toNat k = A at *
      generalize (k : Int) = K at *
      refine (runF_ret (e0 := [iD K, iD few]) (e := [iD K, iD few]) rfl rfl rfl (run_cons s1 (run_cons (e1 := [iD K, iD few]) ?_ (run_ret ?_)))).trans rfl
      · simp [h0']
      · simp [h1, h2, m2, c1, m1, d1]
    · rw [if_neg h]
      generalize (k : Int) = K at *
      refine (runF_ret (e0 := [iD K, iD few]) (e := [iD K, iD few]) rfl rfl rfl (run_cons s1 (run_cons (e1 := [iD K, iD few]) ?_ (run_ret ?_)))).trans rfl
      · simp [h0']
      · by_cases h1 : 1 ≤ few
        · have h2 : ¬ few ≤ K := fun z => h ⟨h1, z⟩
          simp [h1, h2]
        · simp [h1]
/-- a part of the sum -/
def hT (k : Nat) (m t : Int) : Int := chI (2 * k) (k + t * m) - chI (2 * k) (k + 1 + t * m)
def hS (k : Nat) (m : Int) : Int → Nat → Int
  | _, 0 => 0
  | lo, i + 1 => hS k m lo i + hT k m (lo + i)
abbrev hB : Ss := .cons (.set 3 (.bin .sub (.bin .add (.var 3) (.call 0 (.cons (.bin .mul (.int 2) (.var 0)) (.cons (.bin .add (.var 0) (.bin .mul (.var 4) (.var 2))) .nil)))) (.call 0 (.cons (.bin .mul (.int 2) (.var 0)) (.cons (.bin .add (.bin .add (.var 0) (.int 1)) (.bin .mul (.var 4) (.var 2))) .nil))))) .nil
theorem h_step (k : Nat) (hk : k ≤ 1000) (m t f : Int) (M : Option DV) (hm : Bd 20 m) (ht : Bd 20 t) : exSs (Oc mo (n + 1)) hB [iD k, M, iD m, iD f, iD t] = .ok .nx [iD k, M, iD m, iD (f + hT k m t), iD t] := by
  have c1 := c_choose n (2 * k) (k + t * m) (by omega)
  have c2 := c_choose n (2 * k) (k + 1 + t * m) (by omega)
  rw [show ((2 * k : Nat) : Int) = 2 * (k : Int) by omega] at c1 c2
  have m2 : mulOk 2 (k : Int) = true := Bd.mulOk (k := 20) (l := 20) (by unfold Bd; decide) (Bd.of (by omega) (by omega)) (by omega)
  have m3 := ht.mulOk hm (by omega)
  have e : f + hT k m t = f + chI (2 * k) (k + t * m) - chI (2 * k) (k + 1 + t * m) := by unfold hT; omega
  rw [e]
  generalize chI (2 * k) (k + t * m) = A at *
  generalize chI (2 * k) (k + 1 + t * m) = B at *
  generalize (k : Int) = K at *
  simp [m2, m3, c1, c2]
theorem rangeD_get {lo : Int} {n i : Nat} {x : PyData} (h : (rangeD lo n)[i]? = some x) : i < n ∧ x = .int (lo + i) := by
  unfold rangeD at h
  rw [List.getElem?_map, Option.map_eq_some_iff] at h
  obtain ⟨j, hj, rfl⟩ := h
  obtain ⟨h1, h2⟩ := List.getElem?_eq_some_iff.mp hj
  simp at h1 h2
  exact ⟨h1, by rw [← h2]⟩
theorem h_loop (k : Nat) (hk : k ≤ 1000) (m lo : Int) (M : Option DV) (hm : Bd 20 m) (c : Nat) (h1 : -3000 ≤ lo) (h2 : lo + c ≤ 3000) : ∃ o, forL (.name 4) (exSs (Oc mo (n + 1)) hB) (rangeD lo c) [iD k, M, iD m, iD 0, none] = .ok .nx [iD k, M, iD m, iD (hS k m lo c), o] := by
  obtain ⟨e, q1, o, rfl⟩ := forL_run (g := .name 4) (body := exSs (Oc mo (n + 1)) hB) (fun i e => ∃ o, e = [iD k, M, iD m, iD (hS k m lo i), o]) (fun e => ∃ o, e = [iD k, M, iD m, iD (hS k m lo c), o]) (rangeD lo c) 0 [iD k, M, iD m, iD 0, none] ⟨none, rfl⟩ (fun i x e hx he => by
      obtain ⟨o, rfl⟩ := he
      obtain ⟨hi, rfl⟩ := rangeD_get hx
      rw [Nat.zero_add]
      have b : Bd 20 (lo + (i : Int)) := Bd.of (by omega) (by omega)
      exact ⟨[iD k, M, iD m, iD (hS k m lo i), iD (lo + i)], _, .nx, rfl, h_step n k hk m (lo + i) _ M hm b, .inl ⟨.inl rfl, _, rfl⟩⟩) (fun e he => by
      obtain ⟨o, rfl⟩ := he
      have : (rangeD lo c).length = c := by simp [rangeD]
      rw [Nat.zero_add, this]
      exact ⟨o, rfl⟩)
  exact ⟨o, q1⟩
/-- how many are at most so high -/
def cHt (k most : Nat) : Int := hS k (most + 2) ((-(2 * k : Int)).fdiv (most + 2) - 1) ((2 * k : Int).fdiv (most + 2) + 2 - ((-(2 * k : Int)).fdiv (most + 2) - 1)).toNat
theorem c_cheight (k most : Nat) (hk : k ≤ 1000) (hm : most ≤ 1000) : mo.cf (n + 2) 18 [.d (.int k), .d (.int most)] = .ok (.d (.int (cHt k most))) none := by
  rw [cf_eq mo (n + 1) 18 _ f_count_height rfl]
  have ch := c_half n (k : Int)
  rw [if_pos ⟨by omega, by omega⟩] at ch
  have m2 : mulOk 2 (k : Int) = true := Bd.mulOk (k := 20) (l := 20) (by unfold Bd; decide) (Bd.of (by omega) (by omega)) (by omega)
  have b3 : Bd 20 ((most : Int) + 2) := Bd.of (by omega) (by omega)
  have d1 := b3.divOk (by omega) (by omega)
  have f1 := fdiv_abs (-(2 * (k : Int))) ((most : Int) + 2)
  have f2 := fdiv_abs (2 * (k : Int)) ((most : Int) + 2)
  have g2 : 0 ≤ (2 * (k : Int)).fdiv ((most : Int) + 2) := Int.fdiv_nonneg (by omega) (by omega)
  have g1 : (-(2 * (k : Int))).fdiv ((most : Int) + 2) ≤ 0 := by
    rw [Int.fdiv_eq_ediv_of_nonneg _ (by omega)]
    exact Int.ediv_nonpos_of_nonpos_of_neg (by omega) (by omega)
  unfold cHt
  generalize hl : (-(2 * (k : Int))).fdiv ((most : Int) + 2) = lo at *
  generalize hh : (2 * (k : Int)).fdiv ((most : Int) + 2) = hi at *
  obtain ⟨o, lp⟩ := h_loop n k hk ((most : Int) + 2) (lo - 1) (iD most) b3 (hi + 2 - (lo - 1)).toNat (by omega) (by omega)
  have n1 : (0 : Int) ≤ (most : Int) := by omega
  have n2 : (most : Int) ≤ 1000 := by omega
  have sm1 : small62 (lo - 1) = true := by simp only [small62, Bool.and_eq_true, decide_eq_true_eq]; omega
  have sm2 : small62 (hi + 2) = true := by simp only [small62, Bool.and_eq_true, decide_eq_true_eq]; omega
  generalize hS k ((most : Int) + 2) (lo - 1) (hi + 2 - (lo - 1)).toNat = Z at *
  generalize (k : Int) = K at *
  generalize (most : Int) = N at *
  refine (runF_ret (v := .d (.int Z)) (e0 := [iD K, iD N, none, none, none]) (e := [iD K, iD N, iD (N + 2), iD Z, o]) rfl rfl rfl (run_cons (e1 := [iD K, iD N, none, none, none]) ?_ (run_cons (e1 := [iD K, iD N, none, none, none]) ?_ (run_cons (e1 := [iD K, iD N, iD (N + 2), iD 0, none]) ?_ (run_cons (e1 := [iD K, iD N, iD (N + 2), iD Z, o]) ?_ (run_ret ?_)))))).trans rfl
  · simp [ch]
  · simp [gl0, n1, n2]
  · simp
  · have ea : ev (Oc mo (n + 1)) (.bin .sub (.bin .fdiv (.neg (.bin .mul (.int 2) (.var 0))) (.var 2)) (.int 1)) [iD K, iD N, iD (N + 2), iD 0, none] = .ok (.val (.d (.int (lo - 1)))) [iD K, iD N, iD (N + 2), iD 0, none] := by
      simp [m2, d1, hl]
    have eb : ev (Oc mo (n + 1)) (.bin .add (.bin .fdiv (.bin .mul (.int 2) (.var 0)) (.var 2)) (.int 2)) [iD K, iD N, iD (N + 2), iD 0, none] = .ok (.val (.d (.int (hi + 2)))) [iD K, iD N, iD (N + 2), iD 0, none] := by
      simp [m2, d1, hh]
    have ei : evI (Oc mo (n + 1)) (.rng2 (.bin .sub (.bin .fdiv (.neg (.bin .mul (.int 2) (.var 0))) (.var 2)) (.int 1)) (.bin .add (.bin .fdiv (.bin .mul (.int 2) (.var 0)) (.var 2)) (.int 2))) [iD K, iD N, iD (N + 2), iD 0, none] = .ok (rangeD (lo - 1) (hi + 2 - (lo - 1)).toNat) [iD K, iD N, iD (N + 2), iD 0, none] := by
      rw [x_irng2, ea, R.bind_ok, eb, R.bind_ok]
      show (if (small62 (lo - 1) && small62 (hi + 2)) = true then R.ok (rangeD (lo - 1) (hi + 2 - (lo - 1)).toNat) _ else .bad) = _
      rw [sm1, sm2]
      rfl
    rw [x_fors, ei, R.bind_ok]
    exact lp
  · simp
end
end K04
/-! k04, plain: the law's own reading of texts. -/
namespace K04
open PySem Wd
theorem cutB_to (w : List Bool) (k : Nat) (h : k ≤ w.length) : cutB w none (some (k : Int)) = w.take k := by
  unfold cutB
  rw [HT.sIx_nat, HT.sIx_none, Nat.min_eq_left h]
  simp
theorem cutB_from (w : List Bool) (k : Nat) (h : k ≤ w.length) : cutB w (some (k : Int)) none = w.drop k := by
  unfold cutB
  rw [HT.sIx_nat, HT.sIx_none, Nat.min_eq_left h]
  rw [List.take_of_length_le (by simp)]
theorem o_slcs {s : Str} (hl : s.length ≤ 100000) (lo hi : Option Int) : slcd (.str s) lo hi = some (.d (.str (L2.cutS s lo hi))) := by
  have szl : s.length ≤ sizeLine := sz_of (by omega)
  show (if s.length ≤ sizeLine then some (DV.d (.str (L2.cutS s lo hi))) else none) = _
  rw [if_pos szl]
theorem m_count (a b : Str) : mth1 .count a (.str b) = some (.d (.int (Txt.count a b))) := rfl
def fN (f : Nat → PyData) : PyData → PyData
  | .int z => f z.toNat
  | _ => .none
def qN (f : Nat → Bool) : PyData → Bool
  | .int z => f z.toNat
  | _ => false
theorem rng_map (f : Nat → PyData) (m : Nat) : (rangeD 0 m).map (fN f) = (List.range m).map f := by
  unfold rangeD
  rw [List.map_map]
  apply List.map_congr_left
  intro k _
  show f (0 + (k : Int)).toNat = f k
  rw [Int.zero_add, Int.toNat_natCast]
theorem rngF (f : Nat → Bool) (m : Nat) : ((rangeD 0 m).filter (qN f)).length = ((List.range m).filter f).length := by
  unfold rangeD
  rw [List.filter_map, List.length_map]
  congr 2
  funext k
  show f (0 + (k : Int)).toNat = f k
  rw [Int.zero_add, Int.toNat_natCast]
theorem rngF1 (f : Nat → Bool) (m : Nat) : ((rangeD 1 m).filter (qN f)) = ((List.range m).filter fun k => f (k + 1)).map fun k : Nat => PyData.int ((k + 1 : Nat) : Int) := by
  unfold rangeD
  rw [List.filter_map]
  have e : (qN f ∘ fun i : Nat => PyData.int (1 + (i : Int))) = fun k => f (k + 1) := by
    funext k
    show f (1 + (k : Int)).toNat = f (k + 1)
    congr 1
    omega
  rw [e]
  apply List.map_congr_left
  intro k _
  show PyData.int (1 + (k : Int)) = _
  congr 1
  omega
section
variable (n : Nat)
theorem e_len1 (O : Orc) (e : DEnv) (s : Str) (i : Nat) (h : e[i]? = some (oS s)) (hl : s.length ≤ 100000) : ev O (.bin .add (.blt .len (.cons (.var i) .nil)) (.int 1)) e = .ok (.val (.d (.int ((s.length + 1 : Nat) : Int)))) e := by
  have ol := o_lens hl
  rw [show ((s.length + 1 : Nat) : Int) = (s.length : Int) + 1 by omega]
  generalize (s.length : Int) = Lz at *
  simp [h, ol]
theorem c_llevels (w : List Bool) (hw : w.length ≤ 3000) : mo.cf (n + 1) 24 [.d (.str (tx w))] = .ok (.own ((lv 0 w).map .int)) none := by
  rw [cf_eq mo n 24 _ f__law_levels rfl]
  have ei : evI (Oc mo n) (.rng1 (.bin .add (.blt .len (.cons (.var 0) .nil)) (.int 1))) [oS (tx w), none] = .ok (rangeD 0 (w.length + 1)) [oS (tx w), none] := by
    have e1 := e_len1 (Oc mo n) [oS (tx w), none] (tx w) 0 rfl (by rw [t_len]; omega)
    rw [t_len] at e1
    exact i_rng e1 (sm_few (by omega))
  have z := x_lcm (O := Oc mo n) (elt := .bin .sub (.bin .mul (.int 2) (.m1 .count (.slc (.var 0) .no (.so (.var 1))) (.str "u"))) (.var 1)) (p := 1) (fN fun k => .int (2 * (((w.take k).count true : Nat) : Int) - k)) ei (noOwn1 fun xs => by simp) (by simp) (sz_lt (by rw [range_len]; omega)) fun x hx => by
    obtain ⟨k, hk⟩ := List.getElem?_of_mem hx
    obtain ⟨hk1, rfl⟩ := range_get hk
    have c1 : slcd (.str (tx w)) none (some (k : Int)) = some (.d (.str (tx (w.take k)))) := by
      rw [o_slcs (by rw [t_len]; omega), t_cut, cutB_to w k (by omega)]
    have c2 : mth1 .count (tx (w.take k)) (.str "u") = some (.d (.int ((w.take k).count true : Nat))) := by
      rw [m_count, t_count]
    have m1 : mulOk 2 (((w.take k).count true : Nat) : Int) = true := by
      have : (w.take k).count true ≤ (w.take k).length := List.count_le_length
      rw [List.length_take] at this
      exact Bd.mulOk (k := 20) (l := 20) (by unfold Bd; decide) (Bd.of (by omega) (by omega)) (by omega)
    show _ = R.ok (PyData.int (2 * (((w.take (k : Int).toNat).count true : Nat) : Int) - ((k : Int).toNat : Nat))) _
    rw [Int.toNat_natCast]
    generalize (((w.take k).count true : Nat) : Int) = C at *
    generalize tx (w.take k) = T' at *
    generalize tx w = T at *
    simp [elF, c1, c2, m1]
  rw [rng_map] at z
  refine runF_one (e0 := [oS (tx w), none]) rfl rfl rfl rfl rfl ?_
  rw [x_ret, z, lv_eq, List.map_map]
  rfl
theorem c_lgood (w : List Bool) (hw : w.length ≤ 3000) : mo.cf (n + 2) 25 [.d (.str (tx w))] = .ok (.d (.bool (gd 0 w))) none := by
  rw [cf_eq mo (n + 1) 25 _ f__law_good rfl]
  have cl := c_llevels n w hw
  obtain ⟨r, hr⟩ := lv_cons w 0
  have i1 : intsD ((lv 0 w).map .int) = some (0 :: r) := by rw [ints_map, hr]
  have i3 := bMinL _ i1
  have tg : gd 0 w = (decide (0 ≤ minI 0 r) && decide (hg w = 0)) := by
    rw [← tests_gd]
    unfold tests
    rw [hr]
    rfl
  have hc := hg_count w
  have ol := o_lens (s := tx w) (by rw [t_len]; omega)
  have oc : mth1 .count (tx w) (.str "u") = some (.d (.int (w.count true : Nat))) := by rw [m_count, t_count]
  rw [t_len] at ol
  have m1 : mulOk 2 ((w.count true : Nat) : Int) = true := by
    have : w.count true ≤ w.length := List.count_le_length
    exact Bd.mulOk (k := 20) (l := 20) (by unfold Bd; decide) (Bd.of (by omega) (by omega)) (by omega)
  rw [tg]
  have ed : decide (hg w = 0) = decide (2 * ((w.count true : Nat) : Int) = (w.length : Int)) := by
    rw [hc]
    exact decide_eq_decide.mpr (by omega)
  rw [ed]
  generalize ((w.count true : Nat) : Int) = C at *
  generalize (w.length : Int) = Z at *
  generalize (lv 0 w).map PyData.int = A at *
  generalize tx w = T at *
  refine runF_one (e0 := [oS T]) rfl rfl rfl rfl rfl ?_
  by_cases h : 0 ≤ minI 0 r
  · simp [cl, i3, h, ol, oc, m1]
  · simp [cl, i3, h]
def lret (w : List Bool) : List Nat := ((List.range w.length).filter fun k => (lv 0 w)[k + 1]? == some 0).map (· + 1)
theorem rng2_ev {O : Orc} {a b : E} {e : DEnv} {x y : Int} (ha : ev O a e = .ok (.val (.d (.int x))) e) (hb : ev O b e = .ok (.val (.d (.int y))) e) (h1 : -1000000 ≤ x ∧ x ≤ 1000000) (h2 : -1000000 ≤ y ∧ y ≤ 1000000) : evI O (.rng2 a b) e = .ok (rangeD x (y - x).toNat) e := by
  have s1 : small62 x = true := by simp only [small62, Bool.and_eq_true, decide_eq_true_eq]; omega
  have s2 : small62 y = true := by simp only [small62, Bool.and_eq_true, decide_eq_true_eq]; omega
  rw [x_irng2, ha, R.bind_ok, hb, R.bind_ok]
  show (if (small62 x && small62 y) = true then R.ok (rangeD x (y - x).toNat) e else .bad) = _
  rw [s1, s2]
  rfl
theorem map_self (xs : List PyData) : xs.map (fun x => x) = xs := by simp
theorem c_lret (w : List Bool) (hw : w.length ≤ 3000) : mo.cf (n + 2) 29 [.d (.str (tx w))] = .ok (.d (.int (lret w).length)) none := by
  rw [cf_eq mo (n + 1) 29 _ f__law_returns rfl]
  have cl := c_llevels n w hw
  have ei : evI (Oc mo (n + 1)) (.rng2 (.int 1) (.bin .add (.blt .len (.cons (.var 0) .nil)) (.int 1))) [oS (tx w), none] = .ok (rangeD 1 w.length) [oS (tx w), none] := by
    have e1 := e_len1 (Oc mo (n + 1)) [oS (tx w), none] (tx w) 0 rfl (by rw [t_len]; omega)
    rw [t_len] at e1
    have z := rng2_ev (O := Oc mo (n + 1)) (a := .int 1) (x := 1) rfl e1 (by omega) (by omega)
    rw [show (((w.length + 1 : Nat) : Int) - 1).toNat = w.length by omega] at z
    exact z
  have z := x_lcfm (O := Oc mo (n + 1)) (elt := .var 1) (p := 1) (c := .cons (.cmp .eq (.idx (.call 24 (.cons (.var 0) .nil)) (.var 1)) (.int 0)) .nil) (qN fun k => (lv 0 w)[k]? == some 0) (fun x => x) ei (noOwn1 fun xs => by simp) (by simp) (sz_lt (by simp [rangeD]; omega)) fun x hx => by
    obtain ⟨k, hk⟩ := List.getElem?_of_mem hx
    obtain ⟨hk1, rfl⟩ := rangeD_get hk
    refine ⟨?_, fun _ => by simp [elF]⟩
    have hl := lv_len w 0
    obtain ⟨v, hv⟩ : ∃ v, (lv 0 w)[k + 1]? = some v := ⟨_, List.getElem?_eq_getElem (by omega)⟩
    have ha : L2.atI ((lv 0 w).map PyData.int) (1 + (k : Int)) = some (.int v) := by
      rw [show (1 + (k : Int)) = ((k + 1 : Nat) : Int) by omega, at_nat _ (by rw [List.length_map]; omega), List.getElem?_map, hv]
      rfl
    have hq : qN (fun k => (lv 0 w)[k]? == some 0) (.int (1 + (k : Int))) = decide (v = 0) := by
      show ((lv 0 w)[(1 + (k : Int)).toNat]? == some 0) = _
      rw [show (1 + (k : Int)).toNat = k + 1 by omega, hv, Bool.eq_iff_iff, beq_iff_eq, decide_eq_true_eq]
      simp
    rw [hq]
    generalize (lv 0 w).map PyData.int = A at *
    generalize tx w = T at *
    generalize 1 + (k : Int) = K at *
    by_cases h : v = 0
    · simp [cl, ha, h]
    · simp [cl, ha, h]
  rw [rngF1, map_self] at z
  have hl2 : (((List.range w.length).filter fun k => (lv 0 w)[k + 1]? == some 0).map fun k : Nat => PyData.int ((k + 1 : Nat) : Int)).length = (lret w).length := by
    unfold lret
    rw [List.length_map, List.length_map]
  generalize (((List.range w.length).filter fun k => (lv 0 w)[k + 1]? == some 0).map fun k : Nat => PyData.int ((k + 1 : Nat) : Int)) = A at *
  refine runF_one (e0 := [oS (tx w), none]) rfl rfl rfl rfl rfl ?_
  have q : ∀ (el : E) (e : DEnv), ev (Oc mo (n + 1)) el e = .ok (.val (.own A)) e → exS (Oc mo (n + 1)) (.ret (.blt .len (.cons el .nil))) e = .ok (.ret (.d (.int (lret w).length))) e := fun el e h => by
    rw [← hl2]
    simp [h]
  exact q _ _ z
def lpk (w : List Bool) : Nat := ((List.range (w.length - 1)).filter fun k : Nat => cutB w (some (k : Int)) (some ((k : Int) + 2)) == [true, false]).length
theorem t_ud : ("ud" : Str) = tx [true, false] := by decide +kernel
theorem tx_dec (v u : List Bool) : decide (tx v = tx u) = (v == u) := by
  rw [Bool.eq_iff_iff, decide_eq_true_eq, beq_iff_eq]
  exact ⟨t_inj, fun h => by rw [h]⟩
theorem c_lpk (w : List Bool) (hw : w.length ≤ 3000) : mo.cf (n + 1) 30 [.d (.str (tx w))] = .ok (.d (.int (lpk w))) none := by
  rw [cf_eq mo n 30 _ f__law_peaks rfl]
  have ei : evI (Oc mo n) (.rng1 (.bin .sub (.blt .len (.cons (.var 0) .nil)) (.int 1))) [oS (tx w), none] = .ok (rangeD 0 (w.length - 1)) [oS (tx w), none] := by
    have ol := o_lens (s := tx w) (by rw [t_len]; omega)
    have e1 : ev (Oc mo n) (.bin .sub (.blt .len (.cons (.var 0) .nil)) (.int 1)) [oS (tx w), none] = .ok (.val (.d (.int ((w.length : Int) - 1)))) [oS (tx w), none] := by
      rw [t_len] at ol
      generalize (w.length : Int) = Lz at *
      generalize tx w = T at *
      simp [ol]
    have sm : small62 ((w.length : Int) - 1) = true := by simp only [small62, Bool.and_eq_true, decide_eq_true_eq]; omega
    rw [i_rng e1 sm, show ((w.length : Int) - 1).toNat = w.length - 1 by omega]
  have z := x_lcfm (O := Oc mo n) (elt := .var 1) (p := 1) (c := .cons (.cmp .eq (.slc (.var 0) (.so (.var 1)) (.so (.bin .add (.var 1) (.int 2)))) (.str "ud")) .nil) (qN fun k => cutB w (some (k : Int)) (some ((k : Int) + 2)) == [true, false]) (fun x => x) ei (noOwn1 fun xs => by simp) (by simp) (sz_lt (by rw [range_len]; omega)) fun x hx => by
    obtain ⟨k, hk⟩ := List.getElem?_of_mem hx
    obtain ⟨hk1, rfl⟩ := range_get hk
    refine ⟨?_, fun _ => by simp [elF]⟩
    have c1 : slcd (.str (tx w)) (some (k : Int)) (some ((k : Int) + 2)) = some (.d (.str (tx (cutB w (some (k : Int)) (some ((k : Int) + 2)))))) := by
      rw [o_slcs (by rw [t_len]; omega), t_cut]
    have c2 : cm2 .eq (.str (tx (cutB w (some (k : Int)) (some ((k : Int) + 2))))) (.str "ud") = some (cutB w (some (k : Int)) (some ((k : Int) + 2)) == [true, false]) := by
      show some (decide (tx (cutB w (some (k : Int)) (some ((k : Int) + 2))) = ("ud" : Str))) = _
      rw [t_ud, tx_dec]
    have hq : qN (fun k => cutB w (some (k : Int)) (some ((k : Int) + 2)) == [true, false]) (.int (k : Int)) = (cutB w (some (k : Int)) (some ((k : Int) + 2)) == [true, false]) := by
      show (cutB w (some (((k : Int).toNat : Nat) : Int)) (some ((((k : Int).toNat : Nat) : Int) + 2)) == [true, false]) = _
      rw [Int.toNat_natCast]
    rw [hq]
    generalize (cutB w (some (k : Int)) (some ((k : Int) + 2)) == [true, false]) = B at *
    generalize tx (cutB w (some (k : Int)) (some ((k : Int) + 2))) = T' at *
    generalize tx w = T at *
    generalize (k : Int) = K at *
    cases B <;> simp [c1, c2, -o_eqs]
  rw [map_self] at z
  have hl2 := rngF (fun k => cutB w (some (k : Int)) (some ((k : Int) + 2)) == [true, false]) (w.length - 1)
  generalize (rangeD 0 (w.length - 1)).filter (qN fun k => cutB w (some (k : Int)) (some ((k : Int) + 2)) == [true, false]) = A at *
  refine runF_one (e0 := [oS (tx w), none]) rfl rfl rfl rfl rfl ?_
  have q : ∀ (el : E) (e : DEnv), ev (Oc mo n) el e = .ok (.val (.own A)) e → exS (Oc mo n) (.ret (.blt .len (.cons el .nil))) e = .ok (.ret (.d (.int A.length))) e := fun el e h => by
    simp [h]
  unfold lpk
  rw [← hl2]
  exact q _ _ z
end
end K04
/-! k04, plain: all mountains, by the program and by the law; narrow ways. -/
namespace K04
open PySem Wd
abbrev Row := List Bool × Nat × Nat
def rD (r : Row) : PyData := .tuple [.str (tx r.1), .int r.2.1, .int r.2.2]
def pone (m : Nat) (r : Row) : List Row := (if r.2.1 < m then [(r.1 ++ [true], r.2.1 + 1, r.2.2)] else []) ++ (if r.2.2 < r.2.1 then [(r.1 ++ [false], r.2.1, r.2.2 + 1)] else [])
def pstep (m : Nat) (rows : List Row) : List Row := rows.flatMap (pone m)
def prow (m : Nat) : Nat → List Row
  | 0 => [([], 0, 0)]
  | i + 1 => pstep m (prow m i)
def mts (m : Nat) : List (List Bool) := (prow m (2 * m)).map (·.1)
theorem prow_ok (m : Nat) : ∀ i, (prow m i).length ≤ 2 ^ i ∧ ∀ r ∈ prow m i, r.1.length = i
  | 0 => ⟨by simp [prow], fun r hr => by
    simp [prow] at hr
    rw [hr]
    rfl⟩
  | i + 1 => by
    obtain ⟨h1, h2⟩ := prow_ok m i
    constructor
    · have : ∀ rows : List Row, (pstep m rows).length ≤ 2 * rows.length := by
        intro rows
        induction rows with
        | nil => simp [pstep]
        | cons r rows ih =>
          have e : pstep m (r :: rows) = pone m r ++ pstep m rows := by simp [pstep]
          rw [e, List.length_append, List.length_cons]
          have : (pone m r).length ≤ 2 := by
            unfold pone
            split <;> split <;> simp
          omega
      have := this (prow m i)
      rw [Nat.pow_succ]
      show (pstep m (prow m i)).length ≤ _
      omega
    · intro r hr
      have hr' : r ∈ (prow m i).flatMap (pone m) := hr
      rw [List.mem_flatMap] at hr'
      obtain ⟨q, hq, hrq⟩ := hr'
      have := h2 q hq
      unfold pone at hrq
      rcases List.mem_append.mp hrq with z | z
      · split at z
        · rw [List.mem_singleton] at z
          rw [z]
          simp [this]
        · cases z
      · split at z
        · rw [List.mem_singleton] at z
          rw [z]
          simp [this]
        · cases z
abbrev aB : Ss := .cons (.ifs (.cmp .lt (.var 5) (.var 0)) (.cons (.app 3 (.tup (.cons (.bin .add (.var 4) (.str "u")) (.cons (.bin .add (.var 5) (.int 1)) (.cons (.var 6) .nil))))) .nil) .nil) (.cons (.ifs (.cmp .lt (.var 6) (.var 5)) (.cons (.app 3 (.tup (.cons (.bin .add (.var 4) (.str "d")) (.cons (.var 5) (.cons (.bin .add (.var 6) (.int 1)) .nil))))) .nil) .nil) .nil)
abbrev aG : Tg := .tup (.cons (.name 4) (.cons (.name 5) (.cons (.name 6) .nil)))
theorem q_if1 (O : Orc) (M U D : Int) (T Y : Str) (F : List PyData) (r1 k : Option DV) (hy : T ++ ("u" : Str) = Y) (hl : T.length ≤ 3000) (hz : F.length < sizeLine) : exS O (.ifs (.cmp .lt (.var 5) (.var 0)) (.cons (.app 3 (.tup (.cons (.bin .add (.var 4) (.str "u")) (.cons (.bin .add (.var 5) (.int 1)) (.cons (.var 6) .nil))))) .nil) .nil) [iD M, r1, k, some (.own F), oS T, iD U, iD D] = .ok .nx [iD M, r1, k, some (.own (if U < M then F ++ [.tuple [.str Y, .int (U + 1), .int D]] else F)), oS T, iD U, iD D] := by
  have l1 : T.length + ("u" : Str).length ≤ sizeLine := by
    have : ("u" : Str).length = 1 := by decide +kernel
    rw [this]
    exact sz_of (by omega)
  subst hy
  by_cases h : U < M
  · simp [h, l1, hz]
  · simp [h]
theorem q_if2 (O : Orc) (M U D : Int) (T Y : Str) (F : List PyData) (r1 k : Option DV) (hy : T ++ ("d" : Str) = Y) (hl : T.length ≤ 3000) (hz : F.length < sizeLine) : exS O (.ifs (.cmp .lt (.var 6) (.var 5)) (.cons (.app 3 (.tup (.cons (.bin .add (.var 4) (.str "d")) (.cons (.var 5) (.cons (.bin .add (.var 6) (.int 1)) .nil))))) .nil) .nil) [iD M, r1, k, some (.own F), oS T, iD U, iD D] = .ok .nx [iD M, r1, k, some (.own (if D < U then F ++ [.tuple [.str Y, .int U, .int (D + 1)]] else F)), oS T, iD U, iD D] := by
  have l1 : T.length + ("d" : Str).length ≤ sizeLine := by
    have : ("d" : Str).length = 1 := by decide +kernel
    rw [this]
    exact sz_of (by omega)
  subst hy
  by_cases h : D < U
  · simp [h, l1, hz]
  · simp [h]
theorem a_one (O : Orc) (m : Nat) (r : Row) (F : List PyData) (r1 k : Option DV) (hl : r.1.length ≤ 2000) (hz : F.length + 2 < sizeLine) : exSs O aB [iD m, r1, k, some (.own F), oS (tx r.1), iD r.2.1, iD r.2.2] = .ok .nx [iD m, r1, k, some (.own (F ++ (pone m r).map rD)), oS (tx r.1), iD r.2.1, iD r.2.2] := by
  obtain ⟨w, u, d⟩ := r
  dsimp only at hl ⊢
  have y1 : tx w ++ ("u" : Str) = tx (w ++ [true]) := by rw [t_u, t_1, t_app]
  have y2 : tx w ++ ("d" : Str) = tx (w ++ [false]) := by rw [t_d, t_1, t_app]
  have e1 := q_if1 O m u d (tx w) _ F r1 k y1 (by rw [t_len]; omega) (by omega)
  have e2 := q_if2 O m u d (tx w) _ (if (u : Int) < m then F ++ [.tuple [.str (tx (w ++ [true])), .int ((u : Int) + 1), .int d]] else F) r1 k y2 (by rw [t_len]; omega) (by split <;> (try rw [List.length_append, List.length_singleton]) <;> omega)
  refine (run_cons e1 (run_cons e2 rfl)).trans ?_
  have er : (if (d : Int) < u then (if (u : Int) < m then F ++ [PyData.tuple [.str (tx (w ++ [true])), .int ((u : Int) + 1), .int d]] else F) ++ [.tuple [.str (tx (w ++ [false])), .int u, .int ((d : Int) + 1)]] else (if (u : Int) < m then F ++ [PyData.tuple [.str (tx (w ++ [true])), .int ((u : Int) + 1), .int d]] else F)) = F ++ (pone m (w, u, d)).map rD := by
    unfold pone
    dsimp only
    by_cases h1 : u < m <;> by_cases h2 : d < u
    · rw [if_pos h1, if_pos h2, if_pos (by omega), if_pos (by omega)]
      simp [rD]
    · rw [if_pos h1, if_neg h2, if_neg (by omega), if_pos (by omega)]
      simp [rD]
    · rw [if_neg h1, if_pos h2, if_pos (by omega), if_neg (by omega)]
      simp [rD]
    · rw [if_neg h1, if_neg h2, if_neg (by omega), if_neg (by omega)]
      simp
  rw [er]
  rfl
theorem a_loop (O : Orc) (m : Nat) (r1 k : Option DV) : ∀ (rows : List Row) (F : List PyData) (o4 o5 o6 : Option DV), (∀ r ∈ rows, r.1.length ≤ 2000) → F.length + 2 * rows.length + 2 < sizeLine → ∃ p4 p5 p6 : Option PyData, forL aG (exSs O aB) (rows.map rD) [iD m, r1, k, some (.own F), o4, o5, o6] = .ok .nx [iD m, r1, k, some (.own (F ++ (pstep m rows).map rD)), (if rows = [] then o4 else p4.map .d), (if rows = [] then o5 else p5.map .d), (if rows = [] then o6 else p6.map .d)]
  | [], F, o4, o5, o6, _, _ => ⟨none, none, none, by simp [pstep, forL]⟩
  | r :: rows, F, o4, o5, o6, h, hz => by
    have e1 := a_one O m r F r1 k (h r List.mem_cons_self) (by rw [List.length_cons] at hz; omega)
    have lp : (pone m r).length ≤ 2 := by
      unfold pone
      split <;> split <;> simp
    obtain ⟨p4, p5, p6, ih⟩ := a_loop O m r1 k rows (F ++ (pone m r).map rD) (oS (tx r.1)) (iD r.2.1) (iD r.2.2) (fun q hq => h q (List.mem_cons_of_mem _ hq)) (by rw [List.length_append, List.length_map]; rw [List.length_cons] at hz; omega)
    have b : bindT aG (rD r) [iD m, r1, k, some (.own F), o4, o5, o6] = some [iD m, r1, k, some (.own F), oS (tx r.1), iD r.2.1, iD r.2.2] := rfl
    have es : F ++ (pone m r).map rD ++ (pstep m rows).map rD = F ++ (pstep m (r :: rows)).map rD := by
      rw [List.append_assoc, ← List.map_append]
      rfl
    rw [es] at ih
    by_cases h0 : rows = []
    · refine ⟨some (.str (tx r.1)), some (.int r.2.1), some (.int r.2.2), ?_⟩
      rw [List.map_cons]
      unfold forL
      rw [b]
      dsimp only
      rw [e1, R.bind_ok]
      dsimp only
      rw [ih, if_pos h0, if_pos h0, if_pos h0]
      simp
    · refine ⟨p4, p5, p6, ?_⟩
      rw [List.map_cons]
      unfold forL
      rw [b]
      dsimp only
      rw [e1, R.bind_ok]
      dsimp only
      rw [ih, if_neg h0, if_neg h0, if_neg h0]
      simp
abbrev aO : Ss := .cons (.set 3 (.lst .nil)) (.cons (.fors aG (.data (.var 1)) aB) (.cons (.set 1 (.var 3)) .nil))
/-- a list, its own or locked -/
def Lk (X : List PyData) (v : Option DV) : Prop := v = some (.own X) ∨ v = some (.d (.list X))
theorem a_turn (O : Orc) (m : Nat) (rows : List Row) (v k o3 : Option DV) (q4 q5 q6 : Option PyData) (hv : Lk (rows.map rD) v) (h : ∀ r ∈ rows, r.1.length ≤ 2000) (hz : 2 * rows.length + 2 < sizeLine) : ∃ (w3 : Option DV) (p4 p5 p6 : Option PyData), exSs O aO [iD m, v, k, o3, q4.map .d, q5.map .d, q6.map .d] = .ok .nx [iD m, some (.d (.list ((pstep m rows).map rD))), k, w3, p4.map .d, p5.map .d, p6.map .d] := by
  obtain ⟨p4, p5, p6, lp⟩ := a_loop O m (some (.d (.list (rows.map rD)))) k rows [] (q4.map .d) (q5.map .d) (q6.map .d) h (by simpa using hz)
  rw [List.nil_append] at lp
  have s1 : exS O (.set 3 (.lst .nil)) [iD m, v, k, o3, q4.map .d, q5.map .d, q6.map .d] = .ok .nx [iD m, v, k, some (.own []), q4.map .d, q5.map .d, q6.map .d] := by
    have z0 : (0 : Nat) ≤ sizeLine := Nat.zero_le _
    simp [z0]
  have e2 : evI O (.data (.var 1)) [iD m, v, k, some (.own []), q4.map .d, q5.map .d, q6.map .d] = .ok (rows.map rD) [iD m, some (.d (.list (rows.map rD))), k, some (.own []), q4.map .d, q5.map .d, q6.map .d] := by
    generalize rows.map rD = X at *
    rcases hv with rfl | rfl
    · simp
    · simp
  have s2 : exS O (.fors aG (.data (.var 1)) aB) [iD m, v, k, some (.own []), q4.map .d, q5.map .d, q6.map .d] = forL aG (exSs O aB) (rows.map rD) [iD m, some (.d (.list (rows.map rD))), k, some (.own []), q4.map .d, q5.map .d, q6.map .d] := by
    rw [x_fors, e2, R.bind_ok]
  rw [lp] at s2
  have s3 : ∀ (a b c : Option DV) (X : List PyData), exS O (.set 1 (.var 3)) [iD m, some (.d (.list (rows.map rD))), k, some (.own X), a, b, c] = .ok .nx [iD m, some (.d (.list X)), k, some (.d (.list X)), a, b, c] := fun a b c X => by simp
  have key : ∀ (q p : Option PyData), ∃ p' : Option PyData, (if rows = [] then q.map DV.d else p.map DV.d) = p'.map DV.d := fun q p => by
    split
    · exact ⟨q, rfl⟩
    · exact ⟨p, rfl⟩
  obtain ⟨p4', h4⟩ := key q4 p4
  obtain ⟨p5', h5⟩ := key q5 p5
  obtain ⟨p6', h6⟩ := key q6 p6
  rw [h4, h5, h6] at s2
  exact ⟨_, p4', p5', p6', run_cons s1 (run_cons s2 (run_cons (s3 _ _ _ _) rfl))⟩
abbrev lG : Tg := .tup (.cons (.name 4) (.cons (.name 2) (.cons (.name 2) .nil)))
/-- the words alone -/
theorem a_words (O : Orc) (M v o3 o5 o6 : Option DV) (p2 p4 : Option PyData) (rows : List Row) (hz : rows.length < sizeLine) : lcGo lG [4, 2] (evTs O .nil) (elF O (.var 4)) (rows.map rD) [] [M, v, p2.map .d, o3, p4.map .d, o5, o6] = .ok (rows.map fun r => .str (tx r.1)) [M, v, p2.map .d, o3, p4.map .d, o5, o6] := by
  obtain ⟨ys, e, h1, rfl, h2⟩ := lcGo_run (g := lG) (own := [4, 2]) (tst := evTs O .nil) (elt := elF O (.var 4)) (fun i acc e => e = [M, v, p2.map .d, o3, p4.map .d, o5, o6] ∧ acc = (rows.map fun r => PyData.str (tx r.1)).take i) (rows.map rD) 0 [] [M, v, p2.map .d, o3, p4.map .d, o5, o6] ⟨rfl, rfl⟩ (fun i x acc e hx he => by
    obtain ⟨rfl, rfl⟩ := he
    rw [Nat.zero_add]
    rw [List.getElem?_map, Option.map_eq_some_iff] at hx
    obtain ⟨r, hr, rfl⟩ := hx
    have hi := (List.getElem?_eq_some_iff.mp hr).1
    refine ⟨[M, v, iD r.2.2, o3, oS (tx r.1), o5, o6], [M, v, iD r.2.2, o3, oS (tx r.1), o5, o6], rfl, .inr ⟨rfl, .str (tx r.1), [M, v, iD r.2.2, o3, oS (tx r.1), o5, o6], by simp [elF], by rw [List.length_take, List.length_map]; omega, rfl, ?_⟩⟩
    rw [List.take_succ, List.getElem?_map, hr]
    rfl)
  rw [h1, h2, Nat.zero_add, List.length_map, List.take_of_length_le (by rw [List.length_map]; exact Nat.le_refl _)]
section
variable (n : Nat)
theorem c_all_no (k : Int) (h : ¬ (0 ≤ k ∧ k ≤ 1000)) : mo.cf (n + 2) 8 [.d (.int k)] = .exc 0 := by
  rw [cf_eq mo (n + 1) 8 _ f_all_mountains rfl]
  have ch := c_half n k
  rw [if_neg h] at ch
  refine runF_exc (e0 := [iD k, none, none, none, none, none, none]) rfl rfl rfl rfl (run_exc ?_)
  simp [ch]
theorem c_all_big (k : Int) (h : 8 < k ∧ k ≤ 1000) : mo.cf (n + 2) 8 [.d (.int k)] = .exc 1 := by
  rw [cf_eq mo (n + 1) 8 _ f_all_mountains rfl]
  have ch := c_half n k
  rw [if_pos ⟨by omega, h.2⟩] at ch
  refine runF_exc (e0 := [iD k, none, none, none, none, none, none]) rfl rfl rfl rfl (run_cons (e1 := [iD k, none, none, none, none, none, none]) (by simp [ch]) (run_exc ?_))
  simp [gl1, h.1]
theorem c_all (m : Nat) (hm : m ≤ 8) : mo.cf (n + 2) 8 [.d (.int m)] = .ok (.own ((mts m).map fun w => .str (tx w))) none := by
  rw [cf_eq mo (n + 1) 8 _ f_all_mountains rfl]
  have ch := c_half n (m : Int)
  rw [if_pos ⟨by omega, by omega⟩] at ch
  have p16 : (2 : Nat) ^ 16 = 65536 := by decide
  obtain ⟨e, h1, v, k, w3, p4, p5, p6, rfl, hv, hk⟩ := forL_run (g := .name 2) (body := exSs (Oc mo (n + 1)) aO) (fun i e => ∃ (v : Option DV) (k : Option PyData) (w3 : Option DV) (p4 p5 p6 : Option PyData), e = [iD m, v, k.map .d, w3, p4.map .d, p5.map .d, p6.map .d] ∧ Lk ((prow m i).map rD) v)
      (fun e => ∃ (v : Option DV) (k : Option PyData) (w3 : Option DV) (p4 p5 p6 : Option PyData), e = [iD m, v, k.map .d, w3, p4.map .d, p5.map .d, p6.map .d] ∧ Lk ((prow m (2 * m)).map rD) v ∧ True) (rangeD 0 (2 * m)) 0 [iD m, some (.own [rD ([], 0, 0)]), none, none, none, none, none] ⟨some (.own [rD ([], 0, 0)]), none, none, none, none, none, rfl, .inl rfl⟩ (fun i x e hx he => by
      obtain ⟨v, k, w3, p4, p5, p6, rfl, hv⟩ := he
      obtain ⟨hi, rfl⟩ := range_get hx
      rw [Nat.zero_add] at hv ⊢
      obtain ⟨g1, g2⟩ := prow_ok m i
      have g3 : 2 ^ i ≤ 2 ^ 16 := Nat.pow_le_pow_right (by omega) (by omega)
      obtain ⟨w3', q4, q5, q6, ht⟩ := a_turn (Oc mo (n + 1)) m (prow m i) v (iD i) w3 p4 p5 p6 hv (fun r hr => by rw [g2 r hr]; omega) (sz_lt (by omega))
      exact ⟨[iD m, v, iD i, w3, p4.map .d, p5.map .d, p6.map .d], _, .nx, rfl, ht, .inl ⟨.inl rfl, _, some (.int i), w3', q4, q5, q6, rfl, .inr rfl⟩⟩) (fun e he => by
      obtain ⟨v, k, w3, p4, p5, p6, rfl, hv⟩ := he
      rw [Nat.zero_add, range_len] at hv
      exact ⟨v, k, w3, p4, p5, p6, rfl, hv, trivial⟩)
  obtain ⟨g1, _⟩ := prow_ok m (2 * m)
  have g3 : 2 ^ (2 * m) ≤ 2 ^ 16 := Nat.pow_le_pow_right (by omega) (by omega)
  have m2 : mulOk 2 (m : Int) = true := Bd.mulOk (k := 20) (l := 20) (by unfold Bd; decide) (Bd.of (by omega) (by omega)) (by omega)
  have wd := a_words (Oc mo (n + 1)) (iD m) (some (.d (.list ((prow m (2 * m)).map rD)))) w3 (p5.map .d) (p6.map .d) k p4 (prow m (2 * m)) (sz_lt (by omega))
  have em : (prow m (2 * m)).map (fun r => PyData.str (tx r.1)) = (mts m).map fun w => .str (tx w) := by
    unfold mts
    rw [List.map_map]
    rfl
  rw [em] at wd
  have n8 : ¬ (8 : Int) < m := by omega
  have s1 : exS (Oc mo (n + 1)) (.expr (.call 1 (.cons (.var 0) .nil))) [iD m, none, none, none, none, none, none] = .ok .nx [iD m, none, none, none, none, none, none] := by simp [ch]
  have s2 : exS (Oc mo (n + 1)) (.ifs (.cmp .gt (.var 0) (.glo 1)) (.cons (.rais 1) .nil) .nil) [iD m, none, none, none, none, none, none] = .ok .nx [iD m, none, none, none, none, none, none] := by simp [gl1, n8]
  have s3 : exS (Oc mo (n + 1)) (.set 1 (.lst (.cons (.tup (.cons (.str "") (.cons (.int 0) (.cons (.int 0) .nil)))) .nil))) [iD m, none, none, none, none, none, none] = .ok .nx [iD m, some (.own [rD ([], 0, 0)]), none, none, none, none, none] := by
    have e0 : rD ([], 0, 0) = .tuple [.str "", .int 0, .int 0] := by
      show PyData.tuple [.str (tx []), .int (0 : Nat), .int (0 : Nat)] = _
      rw [← t_0]
      rfl
    rw [e0]
    simp
  have s4 : exS (Oc mo (n + 1)) (.fors (.name 2) (.rng1 (.bin .mul (.int 2) (.var 0))) aO) [iD m, some (.own [rD ([], 0, 0)]), none, none, none, none, none] = .ok .nx [iD m, v, k.map .d, w3, p4.map .d, p5.map .d, p6.map .d] := by
    have er : ev (Oc mo (n + 1)) (.bin .mul (.int 2) (.var 0)) [iD m, some (.own [rD ([], 0, 0)]), none, none, none, none, none] = .ok (.val (.d (.int ((2 * m : Nat) : Int)))) [iD m, some (.own [rD ([], 0, 0)]), none, none, none, none, none] := by
      rw [show ((2 * m : Nat) : Int) = 2 * (m : Int) by omega]
      generalize rD ([], 0, 0) = Z
      simp [m2]
    rw [x_fors, i_rng er (sm_few (by omega)), R.bind_ok]
    exact h1
  have e5 : evI (Oc mo (n + 1)) (.data (.var 1)) [iD m, v, k.map .d, w3, p4.map .d, p5.map .d, p6.map .d] = .ok ((prow m (2 * m)).map rD) [iD m, some (.d (.list ((prow m (2 * m)).map rD))), k.map .d, w3, p4.map .d, p5.map .d, p6.map .d] := by
    generalize (prow m (2 * m)).map rD = X at *
    rcases hv with rfl | rfl
    · simp
    · simp
  refine (runF_ret (e0 := [iD m, none, none, none, none, none, none]) (e := [iD m, some (.d (.list ((prow m (2 * m)).map rD))), k.map .d, w3, p4.map .d, p5.map .d, p6.map .d]) rfl rfl rfl (run_cons s1 (run_cons s2 (run_cons s3 (run_cons s4 (run_ret ?_)))))).trans rfl
  have no : noOwn [iD m, some (DV.d (.list ((prow m (2 * m)).map rD))), k.map .d, w3, p4.map .d, p5.map .d, p6.map .d] [4, 2] = true := by
    cases k <;> cases p4 <;> rfl
  have ex : ev (Oc mo (n + 1)) (.lc (.var 4) lG (.data (.var 1)) .nil [4, 2]) [iD m, v, k.map .d, w3, p4.map .d, p5.map .d, p6.map .d] = .ok (.val (.own ((mts m).map fun w => .str (tx w)))) [iD m, some (.d (.list ((prow m (2 * m)).map rD))), k.map .d, w3, p4.map .d, p5.map .d, p6.map .d] := by
    have e0 : ev (Oc mo (n + 1)) (.lc (.var 4) lG (.data (.var 1)) .nil [4, 2]) [iD m, v, k.map .d, w3, p4.map .d, p5.map .d, p6.map .d] = (evI (Oc mo (n + 1)) (.data (.var 1)) [iD m, v, k.map .d, w3, p4.map .d, p5.map .d, p6.map .d]).bind (fun xs e1 => if noOwn e1 [4, 2] then (lcGo lG [4, 2] (evTs (Oc mo (n + 1)) .nil) (elF (Oc mo (n + 1)) (.var 4)) xs [] e1).bind fun ys e2 => R.ok (PV.val (DV.own ys)) e2 else .bad) := rfl
    rw [e0, e5, R.bind_ok, if_pos no, wd]
    rfl
  rw [x_ret, ex]
  rfl
end
end K04
/-! k04, plain: the law's own mountains; narrow ways. -/
namespace K04
open PySem Wd
def lok (m i : Nat) (x : List Bool) : Bool := decide (0 ≤ hg x) && decide (hg x ≤ 2 * (m : Int) - i - 1)
def lone (m i : Nat) (w : List Bool) : List (List Bool) := [w ++ [true], w ++ [false]].filter (lok m i)
def lstep (m i : Nat) (rows : List (List Bool)) : List (List Bool) := rows.flatMap (lone m i)
def lrow (m : Nat) : Nat → List (List Bool)
  | 0 => [[]]
  | i + 1 => lstep m i (lrow m i)
def lall (m : Nat) : List (List Bool) := lrow m (2 * m)
theorem lrow_ok (m : Nat) : ∀ i, (lrow m i).length ≤ 2 ^ i ∧ ∀ r ∈ lrow m i, r.length = i
  | 0 => ⟨by simp [lrow], fun r hr => by
    simp [lrow] at hr
    rw [hr]
    rfl⟩
  | i + 1 => by
    obtain ⟨h1, h2⟩ := lrow_ok m i
    constructor
    · have : ∀ rows : List (List Bool), (lstep m i rows).length ≤ 2 * rows.length := by
        intro rows
        induction rows with
        | nil => simp [lstep]
        | cons r rows ih =>
          have e : lstep m i (r :: rows) = lone m i r ++ lstep m i rows := by simp [lstep]
          rw [e, List.length_append, List.length_cons]
          have : (lone m i r).length ≤ 2 := by
            unfold lone
            exact List.length_filter_le _ _
          omega
      have := this (lrow m i)
      rw [Nat.pow_succ]
      show (lstep m i (lrow m i)).length ≤ _
      omega
    · intro r hr
      have hr' : r ∈ (lrow m i).flatMap (lone m i) := hr
      rw [List.mem_flatMap] at hr'
      obtain ⟨q, hq, hrq⟩ := hr'
      have := h2 q hq
      have hm := (List.mem_filter.mp hrq).1
      simp at hm
      rcases hm with rfl | rfl <;> simp [this]
def dl (z : Str) : Bool := decide (z = lt true)
theorem dl_lt (b : Bool) : dl (lt b) = b := by cases b <;> decide +kernel
def qL (g : Bool → Bool) : PyData → Bool
  | .str z => g (dl z)
  | _ => false
def fL (g : Bool → PyData) : PyData → PyData
  | .str z => g (dl z)
  | _ => .none
theorem ud_filter (g : Bool → Bool) (f : Bool → PyData) : (([PyData.str "u", .str "d"].filter (qL g)).map (fL f)) = ([true, false].filter g).map f := by
  have e1 : qL g (.str "u") = g true := by
    show g (dl ("u" : Str)) = _
    rw [t_u, dl_lt]
  have e2 : qL g (.str "d") = g false := by
    show g (dl ("d" : Str)) = _
    rw [t_d, dl_lt]
  have e3 : fL f (.str "u") = f true := by
    show f (dl ("u" : Str)) = _
    rw [t_u, dl_lt]
  have e4 : fL f (.str "d") = f false := by
    show f (dl ("d" : Str)) = _
    rw [t_d, dl_lt]
  rw [List.filter_cons, List.filter_cons, e1, e2, List.filter_cons, List.filter_cons]
  cases g true <;> cases g false <;> simp [e3, e4]
theorem lone_map (m i : Nat) (w : List Bool) (f : List Bool → PyData) : (lone m i w).map f = ([true, false].filter fun b => lok m i (w ++ [b])).map fun b => f (w ++ [b]) := by
  unfold lone
  rw [List.filter_cons, List.filter_cons, List.filter_cons, List.filter_cons]
  cases lok m i (w ++ [true]) <;> cases lok m i (w ++ [false]) <;> simp
abbrev tC1 : T := .chain .le .le (.int 0) (.idx (.call 24 (.cons (.bin .add (.var 4) (.var 5)) .nil)) (.neg (.int 1))) (.bin .sub (.bin .sub (.bin .mul (.int 2) (.var 0)) (.var 2)) (.int 1))
abbrev eL : E := .lc (.bin .add (.var 4) (.var 5)) (.name 5) (.data (.lst (.cons (.str "u") (.cons (.str "d") .nil)))) (.cons tC1 .nil) [5]
theorem q_test (O : Orc) (m i h : Int) (T Y b : Str) (A : List PyData) (r1 o3 : Option DV) (hb : T ++ b = Y) (hl : T.length + b.length ≤ sizeLine) (hc : O.cf 24 [.d (.str Y)] = .ok (.own A) none) (ha : L2.atI A (-1) = some (.int h)) (hm : mulOk 2 m = true) : evTs O (.cons tC1 .nil) [iD m, r1, iD i, o3, oS T, oS b] = .ok (decide (0 ≤ h) && decide (h ≤ 2 * m - i - 1)) [iD m, r1, iD i, o3, oS T, oS b] := by
  subst hb
  by_cases h0 : 0 ≤ h
  · by_cases h1 : h ≤ 2 * m - i - 1
    · simp [hl, hc, ha, hm, h0, h1]
    · simp [hl, hc, ha, hm, h0, h1]
  · simp [hl, hc, ha, hm, h0]
section
variable (n : Nat)
theorem e_lone (m i : Nat) (hm : m ≤ 100) (w : List Bool) (hw : w.length ≤ 1000) (r1 o3 : Option DV) : ev (Oc mo (n + 1)) eL [iD m, r1, iD i, o3, oS (tx w), none] = .ok (.val (.own ((lone m i w).map fun x => .str (tx x)))) [iD m, r1, iD i, o3, oS (tx w), none] := by
  have ei : evI (Oc mo (n + 1)) (.data (.lst (.cons (.str "u") (.cons (.str "d") .nil)))) [iD m, r1, iD i, o3, oS (tx w), none] = .ok [.str "u", .str "d"] [iD m, r1, iD i, o3, oS (tx w), none] := by simp
  have m2 : mulOk 2 (m : Int) = true := Bd.mulOk (k := 20) (l := 20) (by unfold Bd; decide) (Bd.of (by omega) (by omega)) (by omega)
  have l1 : ∀ b, (tx w).length + (lt b).length ≤ sizeLine := fun b => by
    have : (lt b).length = 1 := rfl
    rw [this, t_len]
    exact sz_of (by omega)
  have z := x_lcfm (O := Oc mo (n + 1)) (elt := .bin .add (.var 4) (.var 5)) (p := 5) (c := .cons tC1 .nil) (qL fun b => lok m i (w ++ [b])) (fL fun b => .str (tx (w ++ [b]))) ei rfl (by simp) (sz_lt (by simp)) fun x hx => by
    obtain ⟨b, rfl⟩ : ∃ b, x = .str (lt b) := by
      rcases List.mem_cons.mp hx with rfl | hx
      · exact ⟨true, by rw [t_u]⟩
      · rw [List.mem_singleton] at hx
        rw [hx]
        exact ⟨false, by rw [t_d]⟩
    have cl := c_llevels n (w ++ [b]) (by rw [List.length_append]; simp; omega)
    obtain ⟨V, h1, _⟩ := lv_last (w ++ [b]) 0
    have ha : L2.atI ((lv 0 (w ++ [b])).map PyData.int) (-1) = some (.int (hg (w ++ [b]))) := by
      rw [h1, List.map_append, Int.zero_add]
      exact at_last _ _
    have hq : qL (fun b => lok m i (w ++ [b])) (.str (lt b)) = (decide (0 ≤ hg (w ++ [b])) && decide (hg (w ++ [b]) ≤ 2 * (m : Int) - i - 1)) := by
      show lok m i (w ++ [dl (lt b)]) = _
      rw [dl_lt]
      rfl
    have hf : fL (fun b => .str (tx (w ++ [b]))) (.str (lt b)) = .str (tx (w ++ [b])) := by
      show PyData.str (tx (w ++ [dl (lt b)])) = _
      rw [dl_lt]
    rw [hq, hf]
    refine ⟨q_test (Oc mo (n + 1)) m i (hg (w ++ [b])) (tx w) (tx (w ++ [b])) (lt b) _ r1 o3 (by rw [t_1, t_app]) (l1 b) cl ha m2, fun _ => ?_⟩
    have hy : tx w ++ lt b = tx (w ++ [b]) := by rw [t_1, t_app]
    have hl := l1 b
    rw [← hy]
    generalize tx w = T at *
    generalize lt b = B at *
    simp [elF, hl]
  rw [ud_filter, ← lone_map m i w fun x => PyData.str (tx x)] at z
  exact z
abbrev lB : Ss := .cons (.ext 3 eL) .nil
theorem q_ext (O : Orc) (e0 e1 e2 e4 e5 : Option DV) (F A : List PyData) (el : E) (h : ev O el [e0, e1, e2, some (.own F), e4, e5] = .ok (.val (.own A)) [e0, e1, e2, some (.own F), e4, e5]) (hz : F.length + A.length ≤ sizeLine) : exSs O (.cons (.ext 3 el) .nil) [e0, e1, e2, some (.own F), e4, e5] = .ok .nx [e0, e1, e2, some (.own (F ++ A)), e4, e5] := by
  simp [h, hz]
theorem l_loop (m i : Nat) (hm : m ≤ 100) (r1 : Option DV) : ∀ (rows : List (List Bool)) (F : List PyData) (q4 : Option PyData), (∀ r ∈ rows, r.length ≤ 1000) → F.length + 2 * rows.length < sizeLine → ∃ p4 : Option PyData, forL (.name 4) (exSs (Oc mo (n + 1)) lB) (rows.map fun w => .str (tx w)) [iD m, r1, iD i, some (.own F), q4.map .d, none] = .ok .nx [iD m, r1, iD i, some (.own (F ++ (lstep m i rows).map fun w => .str (tx w))), p4.map .d, none]
  | [], F, q4, _, _ => ⟨q4, by simp [lstep, forL]⟩
  | w :: rows, F, q4, h, hz => by
    have hw := h w List.mem_cons_self
    have lp : (lone m i w).length ≤ 2 := by
      unfold lone
      exact List.length_filter_le _ _
    rw [List.length_cons] at hz
    have st := q_ext (Oc mo (n + 1)) (iD m) r1 (iD i) (oS (tx w)) none F _ eL (e_lone n m i hm w hw r1 _) (by rw [List.length_map]; omega)
    obtain ⟨p4, ih⟩ := l_loop m i hm r1 rows (F ++ (lone m i w).map fun x => .str (tx x)) (some (.str (tx w))) (fun q hq => h q (List.mem_cons_of_mem _ hq)) (by rw [List.length_append, List.length_map]; omega)
    have es : F ++ (lone m i w).map (fun x => PyData.str (tx x)) ++ (lstep m i rows).map (fun x => PyData.str (tx x)) = F ++ (lstep m i (w :: rows)).map fun x => PyData.str (tx x) := by
      rw [List.append_assoc, ← List.map_append]
      rfl
    rw [es] at ih
    refine ⟨p4, ?_⟩
    rw [List.map_cons]
    unfold forL
    rw [show bindT (.name 4) (.str (tx w)) [iD m, r1, iD i, some (.own F), q4.map .d, none] = some [iD m, r1, iD i, some (.own F), oS (tx w), none] from rfl]
    dsimp only
    rw [st, R.bind_ok]
    exact ih
abbrev lO : Ss := .cons (.set 3 (.lst .nil)) (.cons (.fors (.name 4) (.data (.var 1)) lB) (.cons (.set 1 (.var 3)) .nil))
theorem l_turn (m i : Nat) (hm : m ≤ 100) (rows : List (List Bool)) (v o3 : Option DV) (q4 : Option PyData) (hv : Lk (rows.map fun w => .str (tx w)) v) (h : ∀ r ∈ rows, r.length ≤ 1000) (hz : 2 * rows.length < sizeLine) : ∃ (w3 : Option DV) (p4 : Option PyData), exSs (Oc mo (n + 1)) lO [iD m, v, iD i, o3, q4.map .d, none] = .ok .nx [iD m, some (.d (.list ((lstep m i rows).map fun w => .str (tx w)))), iD i, w3, p4.map .d, none] := by
  obtain ⟨p4, lp⟩ := l_loop n m i hm (some (.d (.list (rows.map fun w => .str (tx w))))) rows [] q4 h (by simpa using hz)
  rw [List.nil_append] at lp
  have s1 : exS (Oc mo (n + 1)) (.set 3 (.lst .nil)) [iD m, v, iD i, o3, q4.map .d, none] = .ok .nx [iD m, v, iD i, some (.own []), q4.map .d, none] := by
    have z0 : (0 : Nat) ≤ sizeLine := Nat.zero_le _
    simp [z0]
  have e2 : evI (Oc mo (n + 1)) (.data (.var 1)) [iD m, v, iD i, some (.own []), q4.map .d, none] = .ok (rows.map fun w => .str (tx w)) [iD m, some (.d (.list (rows.map fun w => .str (tx w)))), iD i, some (.own []), q4.map .d, none] := by
    generalize (rows.map fun w => PyData.str (tx w)) = X at *
    rcases hv with rfl | rfl
    · simp
    · simp
  have s2 : exS (Oc mo (n + 1)) (.fors (.name 4) (.data (.var 1)) lB) [iD m, v, iD i, some (.own []), q4.map .d, none] = forL (.name 4) (exSs (Oc mo (n + 1)) lB) (rows.map fun w => .str (tx w)) [iD m, some (.d (.list (rows.map fun w => .str (tx w)))), iD i, some (.own []), q4.map .d, none] := by
    rw [x_fors, e2, R.bind_ok]
  rw [lp] at s2
  have s3 : ∀ (a b c e : Option DV) (X : List PyData), exS (Oc mo (n + 1)) (.set 1 (.var 3)) [a, b, c, some (.own X), e, none] = .ok .nx [a, some (.d (.list X)), c, some (.d (.list X)), e, none] := fun a b c e X => by simp
  exact ⟨_, p4, run_cons s1 (run_cons s2 (run_cons (s3 _ _ _ _ _) rfl))⟩
theorem c_lall (m : Nat) (hm : m ≤ 8) : mo.cf (n + 2) 26 [.d (.int m)] = .ok (.d (.list ((lall m).map fun w => .str (tx w)))) none := by
  rw [cf_eq mo (n + 1) 26 _ f__law_all rfl]
  obtain ⟨e, h1, v, k, w3, p4, rfl, hv⟩ := forL_run (g := .name 2) (body := exSs (Oc mo (n + 1)) lO) (fun i e => ∃ (v : Option DV) (k w3 : Option DV) (p4 : Option PyData), e = [iD m, v, k, w3, p4.map .d, none] ∧ Lk ((lrow m i).map fun w => .str (tx w)) v)
      (fun e => ∃ (v : Option DV) (k w3 : Option DV) (p4 : Option PyData), e = [iD m, v, k, w3, p4.map .d, none] ∧ Lk ((lall m).map fun w => .str (tx w)) v) (rangeD 0 (2 * m)) 0 [iD m, some (.own [.str ""]), none, none, none, none] ⟨_, none, none, none, rfl, .inl (by rw [t_0]; rfl)⟩ (fun i x e hx he => by
      obtain ⟨v, k, w3, p4, rfl, hv⟩ := he
      obtain ⟨hi, rfl⟩ := range_get hx
      rw [Nat.zero_add] at hv ⊢
      obtain ⟨g1, g2⟩ := lrow_ok m i
      have g3 : 2 ^ i ≤ 2 ^ 16 := Nat.pow_le_pow_right (by omega) (by omega)
      obtain ⟨w3', q4, ht⟩ := l_turn n m i (by omega) (lrow m i) v w3 p4 hv (fun r hr => by rw [g2 r hr]; omega) (sz_lt (by omega))
      exact ⟨[iD m, v, iD i, w3, p4.map .d, none], _, .nx, rfl, ht, .inl ⟨.inl rfl, _, _, w3', q4, rfl, .inr rfl⟩⟩) (fun e he => by
      obtain ⟨v, k, w3, p4, rfl, hv⟩ := he
      rw [Nat.zero_add, range_len] at hv
      exact ⟨v, k, w3, p4, rfl, hv⟩)
  have m2 : mulOk 2 (m : Int) = true := Bd.mulOk (k := 20) (l := 20) (by unfold Bd; decide) (Bd.of (by omega) (by omega)) (by omega)
  have s3 : exS (Oc mo (n + 1)) (.set 1 (.lst (.cons (.str "") .nil))) [iD m, none, none, none, none, none] = .ok .nx [iD m, some (.own [.str ""]), none, none, none, none] := by simp
  have s4 : exS (Oc mo (n + 1)) (.fors (.name 2) (.rng1 (.bin .mul (.int 2) (.var 0))) lO) [iD m, some (.own [.str ""]), none, none, none, none] = .ok .nx [iD m, v, k, w3, p4.map .d, none] := by
    have er : ev (Oc mo (n + 1)) (.bin .mul (.int 2) (.var 0)) [iD m, some (.own [.str ""]), none, none, none, none] = .ok (.val (.d (.int ((2 * m : Nat) : Int)))) [iD m, some (.own [.str ""]), none, none, none, none] := by
      rw [show ((2 * m : Nat) : Int) = 2 * (m : Int) by omega]
      simp [m2]
    rw [x_fors, i_rng er (sm_few (by omega)), R.bind_ok]
    exact h1
  generalize ((lall m).map fun w => PyData.str (tx w)) = X at *
  have s5 : exS (Oc mo (n + 1)) (.ret (.var 1)) [iD m, v, k, w3, p4.map .d, none] = .ok (.ret (.d (.list X))) [iD m, some (.d (.list X)), k, w3, p4.map .d, none] := by
    rcases hv with rfl | rfl
    · simp
    · simp
  exact (runF_ret (e0 := [iD m, none, none, none, none, none]) rfl rfl rfl (run_cons s3 (run_cons s4 (run_ret s5)))).trans rfl
/-! ### narrow ways -/
def nst (L : List Int) : List Int := (List.range L.length).map fun a => (if 1 ≤ a then L.getD (a - 1) 0 else 0) + (if a + 1 < L.length then L.getD (a + 1) 0 else 0)
def nrow (h : Nat) : Nat → List Int
  | 0 => 1 :: List.replicate h 0
  | i + 1 => nst (nrow h i)
theorem nrow_len (h : Nat) : ∀ i, (nrow h i).length = h + 1
  | 0 => by simp [nrow]
  | i + 1 => by simp [nrow, nst, nrow_len h i]
def nar (m h : Nat) : Int := (nrow h (2 * m)).headD 0
abbrev eJ : E := .lc (.idx (.var 2) (.var 5)) (.name 5) (.data (.lst (.cons (.bin .sub (.var 4) (.int 1)) (.cons (.bin .add (.var 4) (.int 1)) .nil)))) (.cons (.chain .le .le (.int 0) (.var 5) (.var 1)) .nil) [5]
def qJ (h : Nat) : PyData → Bool
  | .int z => decide (0 ≤ z) && decide (z ≤ (h : Int))
  | _ => false
def fJ (L : List Int) : PyData → PyData
  | .int z => .int (L.getD z.toNat 0)
  | _ => .none
theorem e_j (O : Orc) (h : Nat) (L : List Int) (hL : L.length = h + 1) (a : Nat) (ha : a < h + 1) (M k : Option DV) : ∃ zs : List Int, ev O eJ [M, iD h, some (.own (L.map .int)), k, iD a, none] = .ok (.val (.own (zs.map .int))) [M, iD h, some (.own (L.map .int)), k, iD a, none] ∧ zs.sum = (if 1 ≤ a then L.getD (a - 1) 0 else 0) + (if a + 1 < L.length then L.getD (a + 1) 0 else 0) := by
  have ei : evI O (.data (.lst (.cons (.bin .sub (.var 4) (.int 1)) (.cons (.bin .add (.var 4) (.int 1)) .nil)))) [M, iD h, some (.own (L.map .int)), k, iD a, none] = .ok [.int ((a : Int) - 1), .int ((a : Int) + 1)] [M, iD h, some (.own (L.map .int)), k, iD a, none] := by simp
  have z := x_lcfm (O := O) (elt := .idx (.var 2) (.var 5)) (p := 5) (c := .cons (.chain .le .le (.int 0) (.var 5) (.var 1)) .nil) (qJ h) (fJ L) ei rfl (by simp) (sz_lt (by simp)) fun x hx => by
    obtain ⟨y, rfl⟩ : ∃ y : Int, x = .int y := by
      rcases List.mem_cons.mp hx with rfl | hx
      · exact ⟨_, rfl⟩
      · rw [List.mem_singleton] at hx
        exact ⟨_, hx⟩
    show evTs O _ _ = .ok (decide (0 ≤ y) && decide (y ≤ (h : Int))) _ ∧ ((decide (0 ≤ y) && decide (y ≤ (h : Int))) = true → elF O _ _ = .ok (.int (L.getD y.toNat 0)) _)
    constructor
    · generalize L.map PyData.int = X
      generalize (h : Int) = H
      by_cases h0 : 0 ≤ y
      · by_cases h1 : y ≤ H
        · simp [h0, h1]
        · simp [h0, h1]
      · simp [h0]
    · intro hq
      rw [Bool.and_eq_true, decide_eq_true_eq, decide_eq_true_eq] at hq
      have ht : L2.atI (L.map PyData.int) y = some (.int (L.getD y.toNat 0)) := by
        obtain ⟨j, hj⟩ : ∃ j : Nat, y = j := ⟨y.toNat, by omega⟩
        subst hj
        rw [at_nat _ (by rw [List.length_map]; omega), List.getElem?_map, Int.toNat_natCast, List.getD_eq_getElem?_getD, List.getElem?_eq_getElem (by omega)]
        rfl
      generalize L.getD y.toNat 0 = V at *
      generalize L.map PyData.int = X at *
      simp [elF, ht]
  by_cases h1 : 1 ≤ a
  · by_cases h2 : a + 1 < L.length
    · refine ⟨[L.getD (a - 1) 0, L.getD (a + 1) 0], ?_, ?_⟩
      · rw [z]
        have c1 : qJ h (.int ((a : Int) - 1)) = true := by
          show (decide (0 ≤ (a : Int) - 1) && decide ((a : Int) - 1 ≤ (h : Int))) = true
          rw [Bool.and_eq_true, decide_eq_true_eq, decide_eq_true_eq]
          omega
        have c2 : qJ h (.int ((a : Int) + 1)) = true := by
          show (decide (0 ≤ (a : Int) + 1) && decide ((a : Int) + 1 ≤ (h : Int))) = true
          rw [Bool.and_eq_true, decide_eq_true_eq, decide_eq_true_eq]
          omega
        rw [List.filter_cons, List.filter_cons, List.filter_nil]
        rw [c1, c2]
        show R.ok (PV.val (DV.own [PyData.int (L.getD ((a : Int) - 1).toNat 0), PyData.int (L.getD ((a : Int) + 1).toNat 0)])) _ = _
        rw [show ((a : Int) - 1).toNat = a - 1 by omega, show ((a : Int) + 1).toNat = a + 1 by omega]
        rfl
      · rw [if_pos h1, if_pos h2]
        simp
    · refine ⟨[L.getD (a - 1) 0], ?_, ?_⟩
      · rw [z]
        have c1 : qJ h (.int ((a : Int) - 1)) = true := by
          show (decide (0 ≤ (a : Int) - 1) && decide ((a : Int) - 1 ≤ (h : Int))) = true
          rw [Bool.and_eq_true, decide_eq_true_eq, decide_eq_true_eq]
          omega
        have c2 : qJ h (.int ((a : Int) + 1)) = false := by
          show (decide (0 ≤ (a : Int) + 1) && decide ((a : Int) + 1 ≤ (h : Int))) = false
          rw [Bool.and_eq_false_iff, decide_eq_false_iff_not, decide_eq_false_iff_not]
          omega
        rw [List.filter_cons, List.filter_cons, List.filter_nil]
        rw [c1, c2]
        show R.ok (PV.val (DV.own [PyData.int (L.getD ((a : Int) - 1).toNat 0)])) _ = _
        rw [show ((a : Int) - 1).toNat = a - 1 by omega]
        rfl
      · rw [if_pos h1, if_neg h2]
        simp
  · by_cases h2 : a + 1 < L.length
    · refine ⟨[L.getD (a + 1) 0], ?_, ?_⟩
      · rw [z]
        have c1 : qJ h (.int ((a : Int) - 1)) = false := by
          show (decide (0 ≤ (a : Int) - 1) && decide ((a : Int) - 1 ≤ (h : Int))) = false
          rw [Bool.and_eq_false_iff, decide_eq_false_iff_not, decide_eq_false_iff_not]
          omega
        have c2 : qJ h (.int ((a : Int) + 1)) = true := by
          show (decide (0 ≤ (a : Int) + 1) && decide ((a : Int) + 1 ≤ (h : Int))) = true
          rw [Bool.and_eq_true, decide_eq_true_eq, decide_eq_true_eq]
          omega
        rw [List.filter_cons, List.filter_cons, List.filter_nil]
        rw [c1, c2]
        show R.ok (PV.val (DV.own [PyData.int (L.getD ((a : Int) + 1).toNat 0)])) _ = _
        rw [show ((a : Int) + 1).toNat = a + 1 by omega]
        rfl
      · rw [if_neg h1, if_pos h2]
        simp
    · refine ⟨[], ?_, ?_⟩
      · rw [z]
        have c1 : qJ h (.int ((a : Int) - 1)) = false := by
          show (decide (0 ≤ (a : Int) - 1) && decide ((a : Int) - 1 ≤ (h : Int))) = false
          rw [Bool.and_eq_false_iff, decide_eq_false_iff_not, decide_eq_false_iff_not]
          omega
        have c2 : qJ h (.int ((a : Int) + 1)) = false := by
          show (decide (0 ≤ (a : Int) + 1) && decide ((a : Int) + 1 ≤ (h : Int))) = false
          rw [Bool.and_eq_false_iff, decide_eq_false_iff_not, decide_eq_false_iff_not]
          omega
        rw [List.filter_cons, List.filter_cons, List.filter_nil]
        rw [c1, c2]
        rfl
      · rw [if_neg h1, if_neg h2]
        simp
theorem n_turn (O : Orc) (h : Nat) (hh : h ≤ 1000) (L : List Int) (hL : L.length = h + 1) (M k : Option DV) : exSs O (.cons (.set 2 (.lc (.blt .sum (.cons eJ .nil)) (.name 4) (.rng1 (.bin .add (.var 1) (.int 1))) .nil [4])) .nil) [M, iD h, some (.own (L.map .int)), k, none, none] = .ok .nx [M, iD h, some (.own ((nst L).map .int)), k, none, none] := by
  have ei : evI O (.rng1 (.bin .add (.var 1) (.int 1))) [M, iD h, some (.own (L.map .int)), k, none, none] = .ok (rangeD 0 (h + 1)) [M, iD h, some (.own (L.map .int)), k, none, none] := by
    have er : ev O (.bin .add (.var 1) (.int 1)) [M, iD h, some (.own (L.map .int)), k, none, none] = .ok (.val (.d (.int ((h + 1 : Nat) : Int)))) [M, iD h, some (.own (L.map .int)), k, none, none] := by simp
    exact i_rng er (sm_few (by omega))
  have z := x_lcm (O := O) (elt := .blt .sum (.cons eJ .nil)) (p := 4) (fN fun a => .int ((if 1 ≤ a then L.getD (a - 1) 0 else 0) + (if a + 1 < L.length then L.getD (a + 1) 0 else 0))) ei rfl (by simp) (sz_lt (by rw [range_len]; omega)) fun x hx => by
    obtain ⟨a, hk⟩ := List.getElem?_of_mem hx
    obtain ⟨ha, rfl⟩ := range_get hk
    obtain ⟨zs, h1, h2⟩ := e_j O h L hL a ha M k
    show _ = R.ok (PyData.int ((if 1 ≤ (a : Int).toNat then L.getD ((a : Int).toNat - 1) 0 else 0) + (if (a : Int).toNat + 1 < L.length then L.getD ((a : Int).toNat + 1) 0 else 0))) _
    rw [Int.toNat_natCast, ← h2]
    have si : bltR .sum [.list (zs.map .int)] = some (.d (.int zs.sum)) := by
      rw [o_suml, ints_map]
      rfl
    have q : ∀ (el : E) (e : DEnv) (X : List PyData), ev O el e = .ok (.val (.own X)) e → bltR .sum [.list X] = some (.d (.int zs.sum)) → elF O (.blt .sum (.cons el .nil)) e = .ok (.int zs.sum) e := fun el e X g1 g2 => by simp [elF, g1, g2, -o_suml]
    exact q _ _ _ h1 si
  rw [rng_map] at z
  have e2 : (nst L).map PyData.int = (List.range (h + 1)).map fun a => PyData.int ((if 1 ≤ a then L.getD (a - 1) 0 else 0) + (if a + 1 < L.length then L.getD (a + 1) 0 else 0)) := by
    unfold nst
    rw [List.map_map, hL]
    rfl
  rw [e2]
  refine run_cons ?_ rfl
  rw [x_set, z]
  rfl
abbrev nB : Ss := .cons (.set 2 (.lc (.blt .sum (.cons eJ .nil)) (.name 4) (.rng1 (.bin .add (.var 1) (.int 1))) .nil [4])) .nil
theorem n_loop (O : Orc) (m h : Nat) (hh : h ≤ 1000) (M : Option DV) : ∃ k, forL (.name 3) (exSs O nB) (rangeD 0 m) [M, iD h, some (.own ((nrow h 0).map .int)), none, none, none] = .ok .nx [M, iD h, some (.own ((nrow h m).map .int)), k, none, none] := by
  obtain ⟨e, h1, k, rfl⟩ := forL_run (g := .name 3) (body := exSs O nB) (fun i e => ∃ k, e = [M, iD h, some (.own ((nrow h i).map .int)), k, none, none]) (fun e => ∃ k, e = [M, iD h, some (.own ((nrow h m).map .int)), k, none, none]) (rangeD 0 m) 0 [M, iD h, some (.own ((nrow h 0).map .int)), none, none, none] ⟨none, rfl⟩ (fun i x e hx he => by
      obtain ⟨k, rfl⟩ := he
      obtain ⟨hi, rfl⟩ := range_get hx
      rw [Nat.zero_add]
      exact ⟨[M, iD h, some (.own ((nrow h i).map .int)), iD i, none, none], _, .nx, rfl, n_turn O h hh (nrow h i) (nrow_len h i) M (iD i), .inl ⟨.inl rfl, iD i, rfl⟩⟩) (fun e he => by
      obtain ⟨k, rfl⟩ := he
      rw [Nat.zero_add, range_len]
      exact ⟨k, rfl⟩)
  exact ⟨k, h1⟩
theorem flat1 (k : Nat) (z : PyData) : (List.replicate k [z]).flatten = List.replicate k z := by simp
theorem nrow0 (h : Nat) : (nrow h 0).map PyData.int = [.int 1] ++ List.replicate h (.int 0) := by
  show (1 :: List.replicate h 0).map PyData.int = _
  rw [List.map_cons, List.map_replicate]
  rfl
theorem n_rep (O : Orc) (h : Nat) (hh : h ≤ 1000) (M : Option DV) : ev O (.rep (.lst (.cons (.int 0) .nil)) (.var 1)) [M, iD h, none, none, none, none] = .ok (.val (.own (List.replicate h (.int 0)))) [M, iD h, none, none, none, none] := by
  have k1 : -(2 ^ 63) ≤ (h : Int) ∧ (h : Int) < 2 ^ 63 ∧ [PyData.int 0].length * (h : Int).toNat ≤ sizeLine := ⟨by omega, by omega, sz_of (by simp; omega)⟩
  have e8 : ev O (.lst (.cons (.int 0) .nil)) [M, iD h, none, none, none, none] = .ok (.val (.own [.int 0])) [M, iD h, none, none, none, none] := by simp
  have e9 : ev O (.var 1) [M, iD h, none, none, none, none] = .ok (.slot 1) [M, iD h, none, none, none, none] := by simp
  have z := q_rep e8 e9 (k := (h : Int)) rfl k1
  rw [z, Int.toNat_natCast, flat1]
theorem n_init (O : Orc) (h : Nat) (hh : h ≤ 1000) (M : Option DV) : exS O (.set 2 (.bin .add (.lst (.cons (.int 1) .nil)) (.rep (.lst (.cons (.int 0) .nil)) (.var 1)))) [M, iD h, none, none, none, none] = .ok .nx [M, iD h, some (.own ((nrow h 0).map .int)), none, none, none] := by
  have er := n_rep O h hh M
  rw [nrow0]
  have lz : [PyData.int 1].length + (List.replicate h (PyData.int 0)).length ≤ sizeLine := sz_of (by rw [List.length_replicate, List.length_singleton]; omega)
  have e8 : ev O (.lst (.cons (.int 1) .nil)) [M, iD h, none, none, none, none] = .ok (.val (.own [.int 1])) [M, iD h, none, none, none, none] := by simp
  exact q_set (q_cat e8 er lz) (by simp)
theorem n_run (n : Nat) (M h : Int) (N0 Y : List PyData) (z : Int) (k : Option DV) (s1 : exS (Oc mo n) (.set 2 (.bin .add (.lst (.cons (.int 1) .nil)) (.rep (.lst (.cons (.int 0) .nil)) (.var 1)))) [iD M, iD h, none, none, none, none] = .ok .nx [iD M, iD h, some (.own N0), none, none, none])
    (s2 : exS (Oc mo n) (.fors (.name 3) (.rng1 (.bin .mul (.int 2) (.var 0))) nB) [iD M, iD h, some (.own N0), none, none, none] = .ok .nx [iD M, iD h, some (.own (.int z :: Y)), k, none, none]) : mo.cf (n + 1) 28 [.d (.int M), .d (.int h)] = .ok (.d (.int z)) none := by
  rw [cf_eq mo n 28 _ f__law_narrow rfl]
  have s3 : exS (Oc mo n) (.ret (.idx (.var 2) (.int 0))) [iD M, iD h, some (.own (.int z :: Y)), k, none, none] = .ok (.ret (.d (.int z))) [iD M, iD h, some (.own (.int z :: Y)), k, none, none] := by simp
  have hb : exSs (Oc mo n) f__law_narrow.body [iD M, iD h, none, none, none, none] = .ok (.ret (.d (.int z))) [iD M, iD h, some (.own (.int z :: Y)), k, none, none] := run_cons s1 (run_cons s2 (run_ret s3))
  exact (runF_ret (F := f__law_narrow) (v := .d (.int z)) (e0 := [iD M, iD h, none, none, none, none]) rfl rfl rfl hb).trans rfl
theorem c_narrow (m h : Nat) (hm : m ≤ 1000) (hh : h ≤ 1000) : mo.cf (n + 1) 28 [.d (.int m), .d (.int h)] = .ok (.d (.int (nar m h))) none := by
  have m2 : mulOk 2 (m : Int) = true := Bd.mulOk (k := 20) (l := 20) (by unfold Bd; decide) (Bd.of (by omega) (by omega)) (by omega)
  obtain ⟨k, h1⟩ := n_loop (Oc mo n) (2 * m) h hh (iD m)
  have s1 := n_init (Oc mo n) h hh (iD m)
  have hl := nrow_len h (2 * m)
  obtain ⟨z, r, hr⟩ : ∃ z r, nrow h (2 * m) = z :: r := by
    cases hr : nrow h (2 * m) with
    | nil => rw [hr] at hl; simp at hl
    | cons z r => exact ⟨z, r, rfl⟩
  have hn : nar m h = z := by unfold nar; rw [hr]; rfl
  rw [hr, List.map_cons] at h1
  rw [hn]
  generalize (nrow h 0).map PyData.int = N0 at *
  generalize r.map PyData.int = Y at *
  refine n_run n m h N0 Y z k s1 ?_
  have er : ev (Oc mo n) (.bin .mul (.int 2) (.var 0)) [iD m, iD h, some (.own N0), none, none, none] = .ok (.val (.d (.int ((2 * m : Nat) : Int)))) [iD m, iD h, some (.own N0), none, none, none] := by
    rw [show ((2 * m : Nat) : Int) = 2 * (m : Int) by omega]
    simp [m2]
  rw [x_fors, i_rng er (sm_few (by omega)), R.bind_ok]
  exact h1
end
end K04
/-! k04, plain: what is refused. -/
namespace K04
open PySem Wd
theorem told_x {O : Orc} {nm : List Str} {e : DEnv} {el : E} {k : Nat} {t : Str} (h : ev O el (sealD e) = .exc k) (hn : nm[k]? = some t) : ev O (.told nm el) e = .ok (.val (.d (.tuple [.str t]))) e := by
  rw [x_told, h, told_exc hn]
theorem told_v {O : Orc} {nm : List Str} {e : DEnv} {el : E} {v : DV} (h : ev O el (sealD e) = .ok (.val v) (sealD e)) : ev O (.told nm el) e = .ok (.val (.d (.tuple [.str "told", v.data]))) e := by
  rw [x_told, h, told_ok]
theorem call1x {O : Orc} {e : DEnv} {a : E} {x : PyData} {f k : Nat} (ha : ev O a e = .ok (.val (.d x)) e) (h : O.cf f [.d x] = .exc k) : ev O (.call f (.cons a .nil)) e = .exc k := by
  simp [ha, h]
theorem call2x {O : Orc} {e : DEnv} {a b : E} {x y : PyData} {f k : Nat} (ha : ev O a e = .ok (.val (.d x)) e) (hb : ev O b e = .ok (.val (.d y)) e) (h : O.cf f [.d x, .d y] = .exc k) : ev O (.call f (.cons a (.cons b .nil))) e = .exc k := by
  simp [ha, hb, h]
theorem neg1v (O : Orc) (e : DEnv) (k : Int) : ev O (.neg (.int k)) e = .ok (.val (.d (.int (-k)))) e := by simp
/-! ### texts that are none -/
def badS (s : Str) : Bool := s.cps.toList.all (fun c => decide (c < 0x110000)) && decide (s.length ≤ 3000) && !(decide (s.length ≤ 2000) && lett s)
section
variable (n : Nat)
theorem bad_sig {s : Str} (h : badS s = true) : Sig s ∧ s.length ≤ 3000 ∧ ¬ (s.length ≤ 2000 ∧ lett s = true) := by
  simp only [badS, Bool.and_eq_true, List.all_eq_true, decide_eq_true_eq, Bool.not_eq_true'] at h
  obtain ⟨⟨h1, h2⟩, h3⟩ := h
  refine ⟨h1, h2, fun z => ?_⟩
  rw [decide_eq_true z.1, z.2] at h3
  cases h3
theorem bad_chk {s : Str} (h : badS s = true) : mo.cf (n + 3) 5 [.d (.str s)] = .exc 0 := by
  obtain ⟨h1, h2, h3⟩ := bad_sig h
  exact c_chk_no n s h1 h2 h3
variable (s : Str) (h : mo.cf (n + 3) 5 [.d (.str s)] = .exc 0)
include h
theorem b9 : mo.cf (n + 4) 9 [.d (.str s)] = .exc 0 := by
  rw [cf_eq mo (n + 3) 9 _ f_place_of rfl]
  exact runF_exc (e0 := [oS s, none, none, none, none]) rfl rfl rfl rfl (run_exc (by simp [h]))
theorem b11 : mo.cf (n + 4) 11 [.d (.str s)] = .exc 0 := by
  rw [cf_eq mo (n + 3) 11 _ f_next_mountain rfl]
  exact runF_exc (e0 := [oS s, none]) rfl rfl rfl rfl (run_exc (by simp [h]))
theorem b12 : mo.cf (n + 4) 12 [.d (.str s)] = .exc 0 := by
  rw [cf_eq mo (n + 3) 12 _ f_peaks rfl]
  exact runF_exc (e0 := [oS s]) rfl rfl rfl rfl (run_exc (by simp [h]))
theorem b13 : mo.cf (n + 4) 13 [.d (.str s)] = .exc 0 := by
  rw [cf_eq mo (n + 3) 13 _ f_height rfl]
  exact runF_exc (e0 := [oS s]) rfl rfl rfl rfl (run_exc (by simp [h]))
theorem b14 : mo.cf (n + 4) 14 [.d (.str s)] = .exc 0 := by
  rw [cf_eq mo (n + 3) 14 _ f_returns rfl]
  exact runF_exc (e0 := [oS s]) rfl rfl rfl rfl (run_exc (by simp [h]))
theorem b15 : mo.cf (n + 4) 15 [.d (.str s)] = .exc 0 := by
  rw [cf_eq mo (n + 3) 15 _ f_area rfl]
  exact runF_exc (e0 := [oS s]) rfl rfl rfl rfl (run_exc (by simp [h]))
theorem b19 : mo.cf (n + 4) 19 [.d (.str s)] = .exc 0 := by
  rw [cf_eq mo (n + 3) 19 _ f_first_part rfl]
  exact runF_exc (e0 := [oS s, none]) rfl rfl rfl rfl (run_exc (by simp [h]))
theorem b20 : mo.cf (n + 4) 20 [.d (.str s)] = .exc 0 := by
  rw [cf_eq mo (n + 3) 20 _ f_turned rfl]
  exact runF_exc (e0 := [oS s, none]) rfl rfl rfl rfl (run_exc (by simp [h]))
end
section
variable (n : Nat) (k y : Int) (h : ¬ (0 ≤ k ∧ k ≤ 1000))
include h
theorem h10 : mo.cf (n + 2) 10 [.d (.int k), .d (.int y)] = .exc 0 := by
  have ch := c_half n k
  rw [if_neg h] at ch
  rw [cf_eq mo (n + 1) 10 _ f_mountain_at rfl]
  exact runF_exc (e0 := [iD k, iD y, none, none, none, none]) rfl rfl rfl rfl (run_exc (by simp [ch]))
theorem h16 : mo.cf (n + 2) 16 [.d (.int k), .d (.int y)] = .exc 0 := by
  have ch := c_half n k
  rw [if_neg h] at ch
  rw [cf_eq mo (n + 1) 16 _ f_count_peaks rfl]
  exact runF_exc (e0 := [iD k, iD y]) rfl rfl rfl rfl (run_exc (by simp [ch]))
theorem h17 : mo.cf (n + 2) 17 [.d (.int k), .d (.int y)] = .exc 0 := by
  have ch := c_half n k
  rw [if_neg h] at ch
  rw [cf_eq mo (n + 1) 17 _ f_count_returns rfl]
  exact runF_exc (e0 := [iD k, iD y]) rfl rfl rfl rfl (run_exc (by simp [ch]))
theorem h18 : mo.cf (n + 2) 18 [.d (.int k), .d (.int y)] = .exc 0 := by
  have ch := c_half n k
  rw [if_neg h] at ch
  rw [cf_eq mo (n + 1) 18 _ f_count_height rfl]
  exact runF_exc (e0 := [iD k, iD y, none, none, none]) rfl rfl rfl rfl (run_exc (by simp [ch]))
end
theorem h18y (n : Nat) (k y : Int) (hk : 0 ≤ k ∧ k ≤ 1000) (h : ¬ (0 ≤ y ∧ y ≤ 1000)) : mo.cf (n + 2) 18 [.d (.int k), .d (.int y)] = .exc 0 := by
  have ch := c_half n k
  rw [if_pos hk] at ch
  rw [cf_eq mo (n + 1) 18 _ f_count_height rfl]
  refine runF_exc (e0 := [iD k, iD y, none, none, none]) rfl rfl rfl rfl (run_cons (e1 := [iD k, iD y, none, none, none]) (by simp [ch]) (run_exc ?_))
  by_cases h1 : 0 ≤ y
  · have h2 : ¬ y ≤ 1000 := fun z => h ⟨h1, z⟩
    simp [gl0, h1, h2]
  · simp [gl0, h1]
/-! ### the law's refusals -/
abbrev rf : PyData := .tuple [.str "refused"]
theorem tn0 : tnm[0]? = some ("refused" : Str) := rfl
theorem tn1 : tnm[1]? = some ("large" : Str) := rfl
theorem tn2 : tnm[2]? = some ("missing" : Str) := rfl
theorem q_app {O : Orc} {e : DEnv} {i : Nat} {X : List PyData} {es : Es} {ys : List PyData} (h : e[i]? = some (some (.own X))) (hd : evDs O es e = .ok ys e) (hy : ys.length ≤ 1000) (hz : X.length ≤ 100000) : exS O (.set i (.bin .add (.var i) (.lst es))) e = .ok .nx (e.set i (some (.own (X ++ ys)))) := by
  have hi := (List.getElem?_eq_some_iff.mp h).1
  have l1 : ys.length ≤ sizeLine := sz_of (by omega)
  have l2 : X.length + ys.length ≤ sizeLine := sz_of (by omega)
  have e1 : ev O (.lst es) e = .ok (.val (.own ys)) e := by simp [hd, l1]
  have ev0 : ev O (.var i) e = .ok (.slot i) e := by rw [x_var, h]
  have r1 : res (.slot i) e = some (.list X) := by rw [x_res2, h] <;> rfl
  rw [x_set, x_bin, ev0, R.bind_ok, e1, R.bind_ok, r1]
  show ((lift1 ((op2 .add (.list X) (.list ys)).map PV.val) e).bind _) = _
  rw [o_addl, if_pos l2]
  exact if_pos hi
theorem ds_nil (O : Orc) (e : DEnv) : evDs O .nil e = .ok [] e := rfl
theorem ds_cons {O : Orc} {e : DEnv} {a : E} {es : Es} {x : PyData} {xs : List PyData} (ha : ev O a e = .ok (.val (.d x)) e) (hs : evDs O es e = .ok xs e) : evDs O (.cons a es) e = .ok (x :: xs) e := by simp [ha, hs]
abbrev S600 : Str := ⟨(List.replicate 600 ("uudd" : Str).cps).foldl (· ++ ·) #[]⟩
abbrev S2001 : Str := ⟨(List.replicate 2001 ("u" : Str).cps).foldl (· ++ ·) #[]⟩
theorem m600 : op2 .mul (.str "uudd") (.int 600) = some (.d (.str S600)) := by
  have hl : ("uudd" : Str).length = 4 := by decide +kernel
  show (if (2 : Int) ≤ 600 ∧ (600 : Int) ≤ 10000 ∧ 1 ≤ ("uudd" : Str).length ∧ ("uudd" : Str).length ≤ 100 then some (DV.d (.str ⟨(List.replicate (600 : Int).toNat ("uudd" : Str).cps).foldl (· ++ ·) #[]⟩)) else none) = _
  rw [if_pos ⟨by omega, by omega, by rw [hl]; omega, by rw [hl]; omega⟩]
  rfl
theorem m2001 : op2 .mul (.str "u") (.int 2001) = some (.d (.str S2001)) := by
  have hl : ("u" : Str).length = 1 := by decide +kernel
  show (if (2 : Int) ≤ 2001 ∧ (2001 : Int) ≤ 10000 ∧ 1 ≤ ("u" : Str).length ∧ ("u" : Str).length ≤ 100 then some (DV.d (.str ⟨(List.replicate (2001 : Int).toNat ("u" : Str).cps).foldl (· ++ ·) #[]⟩)) else none) = _
  rw [if_pos ⟨by omega, by omega, by rw [hl]; omega, by rw [hl]; omega⟩]
  rfl
theorem bad600 : badS S600 = true := by decide +kernel
theorem bad2001 : badS S2001 = true := by decide +kernel
theorem badx : badS "uxd" = true ∧ badS "ud " = true ∧ badS "UD" = true := by decide +kernel
theorem t_du : ("du" : Str) = tx [false, true] := by decide +kernel
abbrev xB : Ss := .cons (.set 0 (.bin .add (.var 0) (.lst (.cons (.told tnm (.call 9 (.cons (.var 1) .nil))) (.cons (.told tnm (.call 11 (.cons (.var 1) .nil))) (.cons (.told tnm (.call 12 (.cons (.var 1) .nil))) (.cons (.told tnm (.call 13 (.cons (.var 1) .nil))) (.cons (.told tnm (.call 14 (.cons (.var 1) .nil))) (.cons (.told tnm (.call 15 (.cons (.var 1) .nil))) .nil))))))))) (.cons (.set 0 (.bin .add (.var 0) (.lst (.cons (.told tnm (.call 19 (.cons (.var 1) .nil))) (.cons (.told tnm (.call 20 (.cons (.var 1) .nil))) .nil))))) .nil)
section
variable (n : Nat)
theorem x_turn (X : List PyData) (hX : X.length ≤ 1000) (s : Str) (h : mo.cf (n + 4) 5 [.d (.str s)] = .exc 0) : exSs (Oc mo (n + 5)) xB [some (.own X), oS s] = .ok .nx [some (.own (X ++ [rf, rf, rf, rf, rf, rf] ++ [rf, rf])), oS s] := by
  have t : ∀ (Y : List PyData) (f : Nat), mo.cf (n + 5) f [.d (.str s)] = .exc 0 → ev (Oc mo (n + 5)) (.told tnm (.call f (.cons (.var 1) .nil))) [some (.own Y), oS s] = .ok (.val (.d rf)) [some (.own Y), oS s] := fun Y f hf => e_told1x (e := [some (.own Y), oS s]) (i := 1) rfl hf tn0
  refine run_cons (q_app (X := X) (ys := [rf, rf, rf, rf, rf, rf]) rfl (ds_cons (t X 9 (b9 (n + 1) s h)) (ds_cons (t X 11 (b11 (n + 1) s h)) (ds_cons (t X 12 (b12 (n + 1) s h)) (ds_cons (t X 13 (b13 (n + 1) s h)) (ds_cons (t X 14 (b14 (n + 1) s h)) (ds_cons (t X 15 (b15 (n + 1) s h)) (ds_nil _ _))))))) (by simp) (by omega)) ?_
  exact run_cons (q_app (X := X ++ [rf, rf, rf, rf, rf, rf]) (ys := [rf, rf]) rfl (ds_cons (t _ 19 (b19 (n + 1) s h)) (ds_cons (t _ 20 (b20 (n + 1) s h)) (ds_nil _ _))) (by simp) (by rw [List.length_append]; simp; omega)) rfl
theorem x_loop : ∃ o, forL (.name 1) (exSs (Oc mo (n + 5)) xB) [.str "du", .str "u", .str "uxd", .str "ud ", .str S600] [some (.own []), none] = .ok .nx [some (.own (List.replicate 40 rf)), o] := by
  have hdu : mo.cf (n + 4) 5 [.d (.str "du")] = .exc 0 := by
    rw [t_du]
    have := c_chk (n + 1) [false, true] (by simp)
    rw [this]
    rfl
  have hu : mo.cf (n + 4) 5 [.d (.str "u")] = .exc 0 := by
    rw [t_u, t_1]
    have := c_chk (n + 1) [true] (by simp)
    rw [this]
    rfl
  have hux := bad_chk (n + 1) badx.1
  have hud := bad_chk (n + 1) badx.2.1
  have h600 := bad_chk (n + 1) bad600
  have step : ∀ (X : List PyData) (s : Str) (o : Option DV) (rest : List PyData), X.length ≤ 1000 → mo.cf (n + 4) 5 [.d (.str s)] = .exc 0 → forL (.name 1) (exSs (Oc mo (n + 5)) xB) (.str s :: rest) [some (.own X), o] = forL (.name 1) (exSs (Oc mo (n + 5)) xB) rest [some (.own (X ++ List.replicate 8 rf)), oS s] := fun X s o rest hX h => by
    rw [forL, show bindT (.name 1) (.str s) [some (.own X), o] = some [some (.own X), oS s] from rfl]
    dsimp only
    rw [x_turn n X hX s h, R.bind_ok]
    dsimp only
    rw [List.append_assoc]
    rfl
  generalize S600 = S at *
  refine ⟨oS S, ?_⟩
  rw [step [] _ _ _ (by simp) hdu, step _ _ _ _ (by simp) hu, step _ _ _ _ (by simp) hux, step _ _ _ _ (by simp) hud, step _ _ _ _ (by simp) h600]
  rfl
theorem eq51 : cm2 .eq (.list (List.replicate 51 rf)) (.list (List.replicate 51 rf)) = some true := by decide +kernel
theorem eqlg : cm2 .eq (.tuple [.str "large"]) (.tuple [.str "large"]) = some true := by decide +kernel
theorem c_refuses : mo.cf (n + 6) 31 [] = .ok (.d (.bool true)) none := by
  rw [cf_eq mo (n + 5) 31 _ f__law_refuses rfl]
  obtain ⟨o, lo⟩ := x_loop n
  have s0 : exS (Oc mo (n + 5)) (.set 0 (.lst .nil)) [none, none] = .ok .nx [some (.own []), none] := by
    have z0 : (0 : Nat) ≤ sizeLine := Nat.zero_le _
    simp [z0]
  have s1 : exS (Oc mo (n + 5)) (.fors (.name 1) (.data (.lst (.cons (.str "du") (.cons (.str "u") (.cons (.str "uxd") (.cons (.str "ud ") (.cons (.bin .mul (.str "uudd") (.int 600)) .nil))))))) xB) [some (.own []), none] = .ok .nx [some (.own (List.replicate 40 rf)), o] := by
    have ei : evI (Oc mo (n + 5)) (.data (.lst (.cons (.str "du") (.cons (.str "u") (.cons (.str "uxd") (.cons (.str "ud ") (.cons (.bin .mul (.str "uudd") (.int 600)) .nil))))))) [some (.own []), none] = .ok [.str "du", .str "u", .str "uxd", .str "ud ", .str S600] [some (.own []), none] := by
      have hm := m600
      generalize S600 = S at *
      simp [hm]
    rw [x_fors, ei, R.bind_ok]
    exact lo
  have tx : ∀ (e : DEnv) (el : E), ev (Oc mo (n + 5)) el (sealD e) = .exc 0 → ev (Oc mo (n + 5)) (.told tnm el) e = .ok (.val (.d rf)) e := fun e el h => told_x h tn0
  have cUD : mo.cf (n + 5) 4 [.d (.str "UD")] = .exc 0 := c_ism_no (n + 3) "UD" (bad_sig badx.2.2).1 (bad_sig badx.2.2).2.1 (bad_sig badx.2.2).2.2
  have cN1 := c_count (n + 3) (-1)
  rw [if_neg (by omega)] at cN1
  have cN2 := c_count (n + 3) 1001
  rw [if_neg (by omega)] at cN2
  have cA1 := c_all_no (n + 3) (-1) (by omega)
  have s2 : exS (Oc mo (n + 5)) (.set 0 (.bin .add (.var 0) (.lst (.cons (.told tnm (.call 4 (.cons (.str "UD") .nil))) (.cons (.told tnm (.call 6 (.cons (.neg (.int 1)) .nil))) (.cons (.told tnm (.call 6 (.cons (.int 1001) .nil))) (.cons (.told tnm (.call 8 (.cons (.neg (.int 1)) .nil))) (.cons (.told tnm (.call 10 (.cons (.int 1001) (.cons (.int 0) .nil)))) (.cons (.told tnm (.call 18 (.cons (.int 3) (.cons (.neg (.int 1)) .nil)))) .nil))))))))) [some (.own (List.replicate 40 rf)), o] = .ok .nx [some (.own (List.replicate 40 rf ++ [rf, rf, rf, rf, rf, rf])), o] :=
    q_app (ys := [rf, rf, rf, rf, rf, rf]) rfl (ds_cons (tx _ _ (call1x rfl cUD)) (ds_cons (tx _ _ (call1x (neg1v _ _ _) cN1)) (ds_cons (tx _ _ (call1x rfl cN2)) (ds_cons (tx _ _ (call1x (neg1v _ _ _) cA1)) (ds_cons (tx _ _ (call2x rfl rfl (h10 (n + 3) 1001 0 (by omega)))) (ds_cons (tx _ _ (call2x rfl (neg1v _ _ _) (h18y (n + 3) 3 (-1) (by omega) (by omega)))) (ds_nil _ _))))))) (by simp) (by rw [List.length_replicate]; omega)
  have cU2 : mo.cf (n + 5) 4 [.d (.str S2001)] = .exc 0 := c_ism_no (n + 3) S2001 (bad_sig bad2001).1 (bad_sig bad2001).2.1 (bad_sig bad2001).2.2
  have mu := m2001
  have cAL := c_all_big (n + 3) 9 (by omega)
  generalize S2001 = S at *
  have eu : ∀ e, ev (Oc mo (n + 5)) (.bin .mul (.str "u") (.int 2001)) e = .ok (.val (.d (.str S))) e := fun e => by simp [mu]
  have c18 : mo.cf (n + 5) 18 [.d (.int 1), .d (.int 1001)] = .exc 0 := h18y (n + 3) 1 1001 (by omega) (by omega)
  have s3 : exS (Oc mo (n + 5)) (.set 0 (.bin .add (.var 0) (.lst (.cons (.told tnm (.call 16 (.cons (.neg (.int 1)) (.cons (.int 0) .nil)))) (.cons (.told tnm (.call 17 (.cons (.int 1001) (.cons (.int 1) .nil)))) (.cons (.told tnm (.call 18 (.cons (.int 1001) (.cons (.int 1) .nil)))) (.cons (.told tnm (.call 18 (.cons (.int 1) (.cons (.int 1001) .nil)))) (.cons (.told tnm (.call 4 (.cons (.bin .mul (.str "u") (.int 2001)) .nil))) .nil)))))))) [some (.own (List.replicate 40 rf ++ [rf, rf, rf, rf, rf, rf])), o] = .ok .nx [some (.own (List.replicate 51 rf)), o] := by
    have c16 : mo.cf (n + 5) 16 [.d (.int (-1)), .d (.int 0)] = .exc 0 := h16 (n + 3) (-1) 0 (by omega)
    have c17 : mo.cf (n + 5) 17 [.d (.int 1001), .d (.int 1)] = .exc 0 := h17 (n + 3) 1001 1 (by omega)
    have c18a : mo.cf (n + 5) 18 [.d (.int 1001), .d (.int 1)] = .exc 0 := h18 (n + 3) 1001 1 (by omega)
    have t16 : ∀ e, ev (Oc mo (n + 5)) (.told tnm (.call 16 (.cons (.neg (.int 1)) (.cons (.int 0) .nil)))) e = .ok (.val (.d rf)) e := fun e => tx e _ (call2x (neg1v _ _ _) (x_int _ _ 0) c16)
    have t17 : ∀ e, ev (Oc mo (n + 5)) (.told tnm (.call 17 (.cons (.int 1001) (.cons (.int 1) .nil)))) e = .ok (.val (.d rf)) e := fun e => tx e _ (call2x (x_int _ _ 1001) (x_int _ _ 1) c17)
    have t18 : ∀ e, ev (Oc mo (n + 5)) (.told tnm (.call 18 (.cons (.int 1001) (.cons (.int 1) .nil)))) e = .ok (.val (.d rf)) e := fun e => tx e _ (call2x (x_int _ _ 1001) (x_int _ _ 1) c18a)
    have t19 : ∀ e, ev (Oc mo (n + 5)) (.told tnm (.call 18 (.cons (.int 1) (.cons (.int 1001) .nil)))) e = .ok (.val (.d rf)) e := fun e => tx e _ (call2x (x_int _ _ 1) (x_int _ _ 1001) c18)
    have t4 : ∀ e, ev (Oc mo (n + 5)) (.told tnm (.call 4 (.cons (.bin .mul (.str "u") (.int 2001)) .nil))) e = .ok (.val (.d rf)) e := fun e => tx e _ (call1x (eu _) cU2)
    have z := q_app (O := Oc mo (n + 5)) (e := [some (.own (List.replicate 40 rf ++ [rf, rf, rf, rf, rf, rf])), o]) (i := 0) (ys := [rf, rf, rf, rf, rf]) rfl (ds_cons (t16 _) (ds_cons (t17 _) (ds_cons (t18 _) (ds_cons (t19 _) (ds_cons (t4 _) (ds_nil _ _)))))) (by simp) (by rw [List.length_append, List.length_replicate]; simp)
    exact z
  have s4 : exS (Oc mo (n + 5)) (.ret (.ands (.cons (.cmp .eq (.var 0) (.rep (.lst (.cons (.tup (.cons (.str "refused") .nil)) .nil)) (.int 51))) (.cons (.cmp .eq (.told tnm (.call 8 (.cons (.int 9) .nil))) (.tup (.cons (.str "large") .nil))) .nil)))) [some (.own (List.replicate 51 rf)), o] = .ok (.ret (.d (.bool true))) [some (.own (List.replicate 51 rf)), o] := by
    have er : ev (Oc mo (n + 5)) (.rep (.lst (.cons (.tup (.cons (.str "refused") .nil)) .nil)) (.int 51)) [some (.own (List.replicate 51 rf)), o] = .ok (.val (.own (List.replicate 51 rf))) [some (.own (List.replicate 51 rf)), o] := by
      have e8 : ev (Oc mo (n + 5)) (.lst (.cons (.tup (.cons (.str "refused") .nil)) .nil)) [some (.own (List.replicate 51 rf)), o] = .ok (.val (.own [rf])) [some (.own (List.replicate 51 rf)), o] := by simp
      have z := q_rep (k := 51) e8 (x_int _ _ 51) rfl ⟨by omega, by omega, sz_of (by decide)⟩
      rw [z]
      rfl
    have et := told_x (O := Oc mo (n + 5)) (nm := tnm) (e := [some (.own (List.replicate 51 rf)), o]) (el := .call 8 (.cons (.int 9) .nil)) (call1x rfl cAL) tn1
    have q51 := eq51
    generalize List.replicate 51 rf = X at *
    simp [er, et, q51, eqlg, -x_told]
  have hb : exSs (Oc mo (n + 5)) f__law_refuses.body [none, none] = .ok (.ret (.d (.bool true))) [some (.own (List.replicate 51 rf)), o] := run_cons s0 (run_cons s1 (run_cons s2 (run_cons s3 (run_ret s4))))
  exact (runF_ret (F := f__law_refuses) (v := .d (.bool true)) (e0 := [none, none]) rfl rfl rfl hb).trans rfl
end
end K04
/-! k04, plain: small mountains, one by one. -/
namespace K04
open PySem Wd
def fact1 (m : Nat) (L : List (List Bool)) : Bool := decide (lall m = L) && decide ((L.length : Int) = bal m m) &&
  ((List.range 9).all fun f => decide (((L.filter fun w => decide ((lpk w : Int) = (f : Int) - 1)).length : Int) = cPk m ((f : Int) - 1)) && decide (((L.filter fun w => decide (((lret w).length : Int) = (f : Int) - 1)).length : Int) = cRt m ((f : Int) - 1))) &&
  ((List.range 8).all fun h => decide (((L.filter fun w => decide (mxl w ≤ (h : Int))).length : Int) = cHt m h))
theorem facts1 : ((List.range 7).all fun m => fact1 m (mts m)) = true := by decide +kernel
def fact2 (m : Nat) (L : List (List Bool)) : Bool := L.zipIdx.all fun p => gd 0 p.1 && decide (plc p.1 = p.2) && decide (p.1.length = 2 * m) && decide (pk p.1 = lpk p.1) && decide (ret0 p.1 = (lret p.1).length) && decide (unp m p.2 = p.1) &&
  (L.findIdx? (fun z => z == p.1) == some p.2) && (decide (p.1 = []) || (match lret p.1 with | e :: _ => fst0 p.1 == some (e - 1) && decide (1 ≤ e) && decide (e ≤ p.1.length) | [] => false))
theorem facts2 : ((List.range 7).all fun m => fact2 m (mts m)) = true := by decide +kernel
end K04
/-! k04, plain: heights at most, by sums and by narrow ways. -/
namespace K04
open PySem Wd
def lq (n : Nat) : Nat → Nat → Nat → Nat
  | 0, _, f => f
  | c + 1, i, f => lq n c (i + 1) (f * (n - i) / (i + 1))
theorem lq_lp (n : Nat) : ∀ c i, lq n c i (lp n i) = lp n (i + c)
  | 0, i => rfl
  | c + 1, i => by
    show lq n c (i + 1) (lp n i * (n - i) / (i + 1)) = _
    have := lq_lp n c (i + 1)
    rw [show i + 1 + c = i + (c + 1) by omega] at this
    exact this
def chF (n : Nat) : Int → Int
  | .ofNat k => if k ≤ n then (lq n (min k (n - k)) 0 1 : Nat) else 0
  | .negSucc _ => 0
theorem chF_eq (n : Nat) (k : Int) : chI n k = chF n k := by
  cases k with
  | negSucc k => rfl
  | ofNat k =>
    show ((ch n k : Nat) : Int) = if k ≤ n then ((lq n (min k (n - k)) 0 1 : Nat) : Int) else 0
    rw [ch_fast]
    have := lq_lp n (min k (n - k)) 0
    rw [Nat.zero_add, show lp n 0 = 1 from rfl] at this
    rw [this]
    split <;> rfl
def hSF (k : Nat) (m : Int) : Int → Nat → Int → Int
  | _, 0, a => a
  | lo, i + 1, a => hSF k m lo i (a + (chF (2 * k) (k + (lo + i) * m) - chF (2 * k) (k + 1 + (lo + i) * m)))
theorem hSF_eq (k : Nat) (m lo : Int) : ∀ (i : Nat) (a : Int), hSF k m lo i a = a + hS k m lo i
  | 0, a => by
    show a = a + 0
    omega
  | i + 1, a => by
    show hSF k m lo i _ = a + (hS k m lo i + hT k m (lo + i))
    rw [hSF_eq k m lo i]
    unfold hT
    rw [chF_eq, chF_eq]
    omega
def cHF (k most : Nat) : Int := hSF k (most + 2) ((-(2 * k : Int)).fdiv (most + 2) - 1) ((2 * k : Int).fdiv (most + 2) + 2 - ((-(2 * k : Int)).fdiv (most + 2) - 1)).toNat 0
theorem cHF_eq (k most : Nat) : cHt k most = cHF k most := by
  unfold cHt cHF
  rw [hSF_eq]
  omega
def nsF (L : List Int) : List Int := List.zipWith (· + ·) (0 :: L) (L.tail ++ [0])
theorem nsF_eq (L : List Int) (h : L ≠ []) : nst L = nsF L := by
  cases L with
  | nil => exact absurd rfl h
  | cons x L =>
    apply List.ext_getElem?
    intro a
    unfold nst nsF
    rw [List.getElem?_map, List.getElem?_zipWith]
    by_cases ha : a < (x :: L).length
    · rw [List.getElem?_range ha]
      have e1 : (0 :: x :: L)[a]? = some (if 1 ≤ a then (x :: L).getD (a - 1) 0 else 0) := by
        cases a with
        | zero => rfl
        | succ b =>
          obtain ⟨v, hv⟩ : ∃ v, (x :: L)[b]? = some v := ⟨_, List.getElem?_eq_getElem (show b < (x :: L).length by omega)⟩
          rw [List.getElem?_cons_succ, hv, if_pos (by omega), Nat.add_sub_cancel, List.getD_eq_getElem?_getD, hv]
          rfl
      have e2 : (L ++ [0])[a]? = some (if a + 1 < (x :: L).length then (x :: L).getD (a + 1) 0 else 0) := by
        rw [List.length_cons] at ha ⊢
        by_cases hb : a < L.length
        · rw [if_pos (by omega), List.getElem?_append_left hb, List.getD_cons_succ, List.getD_eq_getElem?_getD, List.getElem?_eq_getElem hb]
          rfl
        · have : a = L.length := by omega
          subst this
          rw [if_neg (by omega)]
          simp
      rw [List.tail_cons, e1, e2]
      rfl
    · rw [List.length_cons] at ha
      have e3 : ((x :: L).tail ++ [0])[a]? = none := List.getElem?_eq_none (by simp; omega)
      rw [List.getElem?_eq_none (by simp; omega), e3]
      cases (0 :: x :: L)[a]? <;> rfl
def chkN (h : Nat) : Nat → Nat → List Int → Bool
  | 0, _, _ => true
  | c + 1, m, L => decide (cHF m h = L.headD 0) && chkN h c (m + 1) (nsF (nsF L))
theorem chkN_ok (h : Nat) : ∀ (c m : Nat), chkN h c m (nrow h (2 * m)) = true → ∀ i, i < c → cHt (m + i) h = nar (m + i) h
  | 0, m, _, i, hi => by omega
  | c + 1, m, hc, i, hi => by
    unfold chkN at hc
    rw [Bool.and_eq_true, decide_eq_true_eq] at hc
    obtain ⟨h1, h2⟩ := hc
    cases i with
    | zero =>
      rw [Nat.add_zero, cHF_eq, h1]
      rfl
    | succ i =>
      have ne : ∀ j, nrow h j ≠ [] := fun j z => by
        have := nrow_len h j
        rw [z] at this
        simp at this
      have e : nsF (nsF (nrow h (2 * m))) = nrow h (2 * (m + 1)) := by
        rw [show 2 * (m + 1) = 2 * m + 1 + 1 by omega]
        show _ = nst (nst (nrow h (2 * m)))
        rw [← nsF_eq _ (ne _), ← nsF_eq (nst (nrow h (2 * m))) (ne (2 * m + 1))]
      rw [e] at h2
      have := chkN_ok h c (m + 1) h2 i (by omega)
      rw [show m + 1 + i = m + (i + 1) by omega] at this
      exact this
theorem facts3 : ((List.range 20).all fun h => chkN h 60 0 (nrow h 0)) = true := by decide +kernel
theorem high_eq (m h : Nat) (hm : m < 60) (hh : h < 20) : cHt m h = nar m h := by
  have := List.all_eq_true.mp facts3 h (List.mem_range.mpr hh)
  have := chkN_ok h 60 0 this m hm
  rw [Nat.zero_add] at this
  exact this
end K04
/-! k04, plain: the law's statements, first part. -/
namespace K04
open PySem Wd
abbrev z0 : S := .set 3 (.callm 23 1 (.cons (.int 7) .nil))
abbrev z1 : S := .set 4 (.call 26 (.cons (.var 3) .nil))
abbrev z2 : S := .set 5 (.bin .sub (.callm 23 1 (.cons (.int 9) .nil)) (.int 1))
abbrev z3 : S := .set 6 (.callm 23 1 (.cons (.int 8) .nil))
abbrev z4 : S := .set 7 (.lst (.cons (.told tnm (.call 8 (.cons (.var 3) .nil))) (.cons (.told tnm (.call 6 (.cons (.var 3) .nil))) (.cons (.told tnm (.call 16 (.cons (.var 3) (.cons (.var 5) .nil)))) (.cons (.told tnm (.call 17 (.cons (.var 3) (.cons (.var 5) .nil)))) (.cons (.told tnm (.call 18 (.cons (.var 3) (.cons (.var 6) .nil)))) .nil))))))
abbrev z5 : S := .set 8 (.lst (.cons (.tup (.cons (.str "told") (.cons (.var 4) .nil))) (.cons (.tup (.cons (.str "told") (.cons (.blt .len (.cons (.var 4) .nil)) .nil))) (.cons (.tup (.cons (.str "told") (.cons (.blt .len (.cons (.lc (.var 10) (.name 10) (.data (.var 4)) (.cons (.cmp .eq (.call 30 (.cons (.var 10) .nil)) (.var 5)) .nil) [10]) .nil)) .nil))) (.cons (.tup (.cons (.str "told") (.cons (.blt .len (.cons (.lc (.var 10) (.name 10) (.data (.var 4)) (.cons (.cmp .eq (.call 29 (.cons (.var 10) .nil)) (.var 5)) .nil) [10]) .nil)) .nil))) (.cons (.tup (.cons (.str "told") (.cons (.blt .len (.cons (.lc (.var 10) (.name 10) (.data (.var 4)) (.cons (.cmp .le (.blt .max (.cons (.call 24 (.cons (.var 10) .nil)) .nil)) (.var 6)) .nil) [10]) .nil)) .nil))) .nil))))))
abbrev z6 : S := .ifs (.nott (.tru (.call 21 (.cons (.var 7) (.cons (.var 8) .nil))))) (.cons (.ret (.bl false)) .nil) .nil
abbrev z7 : S := .set 9 (.bin .sub (.callm 23 1 (.cons (.bin .add (.blt .len (.cons (.var 4) .nil)) (.int 2)) .nil)) (.int 1))
abbrev z8 : S := .set 8 (.tup (.cons (.str "missing") .nil))
abbrev z9 : S := .ifs (.chain .le .lt (.int 0) (.var 9) (.blt .len (.cons (.var 4) .nil))) (.cons (.set 8 (.tup (.cons (.str "told") (.cons (.idx (.var 4) (.var 9)) .nil)))) .nil) .nil
abbrev z10 : S := .ifs (.nott (.tru (.call 21 (.cons (.told tnm (.call 10 (.cons (.var 3) (.cons (.var 9) .nil)))) (.cons (.var 8) .nil))))) (.cons (.ret (.bl false)) .nil) .nil
abbrev z11 : S := .set 10 (.idx (.var 4) (.callm 23 1 (.cons (.blt .len (.cons (.var 4) .nil)) .nil)))
abbrev z12 : S := .set 11 (.call 24 (.cons (.var 10) .nil))
abbrev z13 : S := .set 12 (.ml .index (.var 4) (.var 10))
abbrev z14 : S := .set 13 (.m1 .join (.str "") (.lc (.idx (.lst (.cons (.str "u") (.cons (.str "d") .nil))) (.blt .int (.cons (.cmp .eq (.var 24) (.str "u")) .nil))) (.name 24) (.data (.rev (.var 10))) .nil [24]))
abbrev z15 : S := .set 7 (.lst (.cons (.told tnm (.call 9 (.cons (.var 10) .nil))) (.cons (.told tnm (.call 11 (.cons (.var 10) .nil))) (.cons (.told tnm (.call 12 (.cons (.var 10) .nil))) (.cons (.told tnm (.call 13 (.cons (.var 10) .nil))) (.cons (.told tnm (.call 14 (.cons (.var 10) .nil))) (.cons (.told tnm (.call 15 (.cons (.var 10) .nil))) .nil)))))))
abbrev z16 : S := .set 8 (.lst (.cons (.tup (.cons (.str "told") (.cons (.var 12) .nil))) (.cons (.tup (.cons (.str "missing") .nil)) (.cons (.tup (.cons (.str "told") (.cons (.call 30 (.cons (.var 10) .nil)) .nil))) (.cons (.tup (.cons (.str "told") (.cons (.blt .max (.cons (.var 11) .nil)) .nil))) (.cons (.tup (.cons (.str "told") (.cons (.call 29 (.cons (.var 10) .nil)) .nil))) (.cons (.tup (.cons (.str "told") (.cons (.blt .sum (.cons (.var 11) .nil)) .nil))) .nil)))))))
abbrev z17 : S := .ifs (.cmp .lt (.bin .add (.var 12) (.int 1)) (.blt .len (.cons (.var 4) .nil))) (.cons (.seti 8 (.int 1) (.tup (.cons (.str "told") (.cons (.idx (.var 4) (.bin .add (.var 12) (.int 1))) .nil)))) .nil) .nil
abbrev z18 : S := .ifs (.nott (.tru (.call 21 (.cons (.var 7) (.cons (.var 8) .nil))))) (.cons (.ret (.bl false)) .nil) .nil
abbrev z19 : S := .set 8 (.tup (.cons (.str "missing") .nil))
abbrev z20 : S := .ifs (.cmp .ne (.var 10) (.str "")) (.cons (.set 14 (.idx (.lc (.var 25) (.name 25) (.rng2 (.int 1) (.bin .add (.blt .len (.cons (.var 10) .nil)) (.int 1))) (.cons (.cmp .eq (.idx (.var 11) (.var 25)) (.int 0)) .nil) [25]) (.int 0))) (.cons (.set 8 (.tup (.cons (.str "told") (.cons (.tup (.cons (.slc (.var 10) (.so (.int 1)) (.so (.bin .sub (.var 14) (.int 1)))) (.cons (.slc (.var 10) (.so (.var 14)) .no) .nil))) .nil)))) .nil)) .nil
abbrev z21 : S := .ifs (.nott (.tru (.call 21 (.cons (.lst (.cons (.told tnm (.call 19 (.cons (.var 10) .nil))) (.cons (.told tnm (.call 20 (.cons (.var 10) .nil))) .nil))) (.cons (.lst (.cons (.var 8) (.cons (.tup (.cons (.str "told") (.cons (.var 13) .nil))) .nil))) .nil))))) (.cons (.ret (.bl false)) .nil) .nil
abbrev z22 : S := .set 15 (.m1 .join (.str "") (.lc (.idx (.lst (.cons (.str "u") (.cons (.str "d") .nil))) (.callm 23 1 (.cons (.int 2) .nil))) (.name 25) (.rng1 (.callm 23 1 (.cons (.int 9) .nil))) .nil [25]))
abbrev z23 : S := .fors (.name 16) (.data (.lst (.cons (.var 10) (.cons (.var 15) (.cons (.slc (.var 10) (.so (.int 1)) .no) (.cons (.bin .add (.var 10) (.str "ud")) (.cons (.bin .add (.bin .add (.str "d") (.var 10)) (.str "u")) (.cons (.rev (.var 10)) .nil)))))))) (.cons (.ifs (.nott (.tru (.call 21 (.cons (.told tnm (.call 4 (.cons (.var 16) .nil))) (.cons (.tup (.cons (.str "told") (.cons (.call 25 (.cons (.var 16) .nil)) .nil))) .nil))))) (.cons (.ret (.bl false)) .nil) .nil) .nil)
abbrev z24 : S := .set 17 (.bin .add (.int 1) (.callm 23 1 (.cons (.idx (.lst (.cons (.int 40) (.cons (.int 1000) .nil))) (.callm 23 1 (.cons (.int 2) .nil))) .nil)))
abbrev z25 : S := .set 18 (.bin .add (.int 1) (.callm 23 1 (.cons (.var 17) .nil)))
abbrev z26 : S := .set 19 (.bin .fdiv (.call 27 (.cons (.bin .mul (.int 2) (.var 17)) (.cons (.var 17) .nil))) (.bin .add (.var 17) (.int 1)))
abbrev z27 : S := .set 20 (.lst (.cons (.var 19) (.cons (.bin .fdiv (.bin .mul (.call 27 (.cons (.var 17) (.cons (.var 18) .nil))) (.call 27 (.cons (.var 17) (.cons (.bin .sub (.var 18) (.int 1)) .nil)))) (.var 17)) (.cons (.bin .fdiv (.bin .mul (.var 18) (.call 27 (.cons (.bin .sub (.bin .mul (.int 2) (.var 17)) (.var 18)) (.cons (.var 17) .nil)))) (.bin .sub (.bin .mul (.int 2) (.var 17)) (.var 18))) .nil))))
abbrev z28 : S := .ifs (.cmp .ne (.lst (.cons (.call 6 (.cons (.var 17) .nil)) (.cons (.call 16 (.cons (.var 17) (.cons (.var 18) .nil))) (.cons (.call 17 (.cons (.var 17) (.cons (.var 18) .nil))) .nil)))) (.var 20)) (.cons (.ret (.bl false)) .nil) .nil
abbrev z29 : S := .set 21 (.callm 23 1 (.cons (.int 60) .nil))
abbrev z30 : S := .set 22 (.callm 23 1 (.cons (.int 20) .nil))
abbrev z31 : S := .ifs (.cmp .ne (.call 18 (.cons (.var 21) (.cons (.var 22) .nil))) (.call 28 (.cons (.var 21) (.cons (.var 22) .nil)))) (.cons (.ret (.bl false)) .nil) .nil
abbrev z32 : S := .set 23 (.bin .mod (.blt .int (.cons (.bin .add (.bin .mul (.bin .mul (.callm 23 1 (.cons (.int 1009) .nil)) (.int 1009)) (.int 1009)) (.callm 23 1 (.cons (.int 1009) .nil))) .nil)) (.call 27 (.cons (.bin .mul (.int 2) (.var 21)) (.cons (.var 21) .nil))))
abbrev z33 : S := .set 7 (.told tnm (.call 10 (.cons (.var 21) (.cons (.var 23) .nil))))
abbrev z34 : S := .ifs (.cmp .lt (.bin .mul (.var 23) (.bin .add (.var 21) (.int 1))) (.call 27 (.cons (.bin .mul (.int 2) (.var 21)) (.cons (.var 21) .nil)))) (.cons (.ifs (.ors (.cons (.cmp .ne (.idx (.var 7) (.int 0)) (.str "told")) (.cons (.nott (.tru (.call 25 (.cons (.idx (.var 7) (.int 1)) .nil)))) (.cons (.cmp .ne (.blt .len (.cons (.idx (.var 7) (.int 1)) .nil)) (.bin .mul (.int 2) (.var 21))) (.cons (.cmp .ne (.call 9 (.cons (.idx (.var 7) (.int 1)) .nil)) (.var 23)) .nil))))) (.cons (.ret (.bl false)) .nil) .nil) .nil) (.cons (.ifs (.cmp .ne (.var 7) (.tup (.cons (.str "missing") .nil))) (.cons (.ret (.bl false)) .nil) .nil) .nil)
abbrev z35 : S := .ifs (.nott (.tru (.call 31 .nil))) (.cons (.ret (.bl false)) .nil) .nil
abbrev zB : Ss := .cons z0 (.cons z1 (.cons z2 (.cons z3 (.cons z4 (.cons z5 (.cons z6 (.cons z7 (.cons z8 (.cons z9 (.cons z10 (.cons z11 (.cons z12 (.cons z13 (.cons z14 (.cons z15 (.cons z16 (.cons z17 (.cons z18 (.cons z19 (.cons z20 (.cons z21 (.cons z22 (.cons z23 (.cons z24 (.cons z25 (.cons z26 (.cons z27 (.cons z28 (.cons z29 (.cons z30 (.cons z31 (.cons z32 (.cons z33 (.cons z34 (.cons z35 .nil)))))))))))))))))))))))))))))))))))
abbrev oI (k : Int) : Option DV := some (.d (.int k))
abbrev oL (X : List PyData) : Option DV := some (.d (.list X))
abbrev Ok (L : List Int) : Prop := L ≠ [] ∧ L.length ≤ 10000
abbrev OL (n : Nat) : Orc := Oc mo (n + 6)
abbrev sD (w : List Bool) : PyData := .str (tx w)
abbrev eD (m : Nat) : List PyData := (mts m).map sD
abbrev td (x : PyData) : PyData := .tuple [.str "told", x]
theorem f1 {m : Nat} (h : m < 7) : lall m = mts m ∧ (((mts m).length : Int) = bal m m) ∧ (∀ f : Nat, f < 9 → (((mts m).filter fun w => decide ((lpk w : Int) = (f : Int) - 1)).length : Int) = cPk m ((f : Int) - 1) ∧ (((mts m).filter fun w => decide (((lret w).length : Int) = (f : Int) - 1)).length : Int) = cRt m ((f : Int) - 1)) ∧ (∀ f : Nat, f < 8 → (((mts m).filter fun w => decide (mxl w ≤ (f : Int))).length : Int) = cHt m f) := by
  have z := List.all_eq_true.mp facts1 m (List.mem_range.mpr h)
  simp only [fact1, Bool.and_eq_true, decide_eq_true_eq, List.all_eq_true, List.mem_range] at z
  obtain ⟨⟨⟨h1, h2⟩, h3⟩, h4⟩ := z
  exact ⟨h1, h2, h3, h4⟩
theorem f2 {m i : Nat} {w : List Bool} (h : m < 7) (hi : (mts m)[i]? = some w) : gd 0 w = true ∧ plc w = i ∧ w.length = 2 * m ∧ pk w = lpk w ∧ ret0 w = (lret w).length ∧ unp m i = w ∧ (mts m).findIdx? (fun z => z == w) = some i ∧ (w = [] ∨ ∃ e r, lret w = e :: r ∧ fst0 w = some (e - 1) ∧ 1 ≤ e ∧ e ≤ w.length) := by
  have z := List.all_eq_true.mp facts2 m (List.mem_range.mpr h)
  have hz := List.all_eq_true.mp z (w, i) (by
    rw [List.mem_zipIdx_iff_getElem?]
    exact hi)
  simp only [Bool.and_eq_true, Bool.or_eq_true, decide_eq_true_eq, beq_iff_eq] at hz
  obtain ⟨⟨⟨⟨⟨⟨⟨h1, h2⟩, h3⟩, h4⟩, h5⟩, h6⟩, h7⟩, h8⟩ := hz
  refine ⟨h1, h2, h3, h4, h5, h6, h7, ?_⟩
  rcases h8 with h8 | h8
  · exact .inl h8
  · cases hr : lret w with
    | nil =>
      rw [hr] at h8
      cases h8
    | cons e r =>
      rw [hr] at h8
      simp only [Bool.and_eq_true, decide_eq_true_eq, beq_iff_eq] at h8
      exact .inr ⟨e, r, rfl, h8.1.1, h8.1.2, h8.2⟩
theorem e_short {m : Nat} (h : m < 7) : (mts m).length ≤ 5000 := by
  have := (prow_ok m (2 * m)).1
  have g : 2 ^ (2 * m) ≤ 2 ^ 12 := Nat.pow_le_pow_right (by omega) (by omega)
  unfold mts
  rw [List.length_map]
  have : (2 : Nat) ^ 12 = 4096 := by decide
  omega
theorem sD_get {L : List (List Bool)} {x : PyData} (h : x ∈ L.map sD) : ∃ w ∈ L, x = sD w := by
  obtain ⟨w, h1, rfl⟩ := List.mem_map.mp h
  exact ⟨w, h1, rfl⟩
def dT (z : Str) : List Bool := z.cps.toList.map fun c => c == 117
theorem dT_tx (w : List Bool) : dT (tx w) = w := by
  unfold dT
  rw [t_list, List.map_map]
  have : ((fun c => c == 117) ∘ cd) = id := by
    funext b
    cases b <;> rfl
  rw [this, List.map_id]
def qT (g : List Bool → Bool) : PyData → Bool
  | .str z => g (dT z)
  | _ => false
theorem qT_len (g : List Bool → Bool) (L : List (List Bool)) : ((L.map sD).filter (qT g)).length = (L.filter g).length := by
  rw [List.filter_map, List.length_map]
  congr 2
  funext w
  show g (dT (tx w)) = g w
  rw [dT_tx]
theorem mts_len {m : Nat} {w : List Bool} (h : w ∈ mts m) : w.length = 2 * m := by
  obtain ⟨r, hr, rfl⟩ := List.mem_map.mp h
  exact (prow_ok m (2 * m)).2 r hr
section
variable {s st t x3 x4 x5 x6 x7 x8 x9 x11 x12 x13 x14 x15 x16 x17 x18 x19 x20 x21 x22 x23 : Option DV} {p10 : Option PyData}
/-- a comprehension over all mountains, their number -/
theorem q_cnt (O : Orc) (m : Nat) (hm : m < 7) (c : T) (g : List Bool → Bool) (hc : ∀ w ∈ mts m, evTs O (.cons c .nil) [s, st, t, x3, oL (eD m), x5, x6, x7, x8, x9, oS (tx w), x11, x12, x13, x14, x15, x16, x17, x18, x19, x20, x21, x22, x23, none, none] = .ok (g w) [s, st, t, x3, oL (eD m), x5, x6, x7, x8, x9, oS (tx w), x11, x12, x13, x14, x15, x16, x17, x18, x19, x20, x21, x22, x23, none, none]) :
    ev O (.blt .len (.cons (.lc (.var 10) (.name 10) (.data (.var 4)) (.cons c .nil) [10]) .nil)) [s, st, t, x3, oL (eD m), x5, x6, x7, x8, x9, p10.map .d, x11, x12, x13, x14, x15, x16, x17, x18, x19, x20, x21, x22, x23, none, none] = .ok (.val (.d (.int ((mts m).filter g).length))) [s, st, t, x3, oL (eD m), x5, x6, x7, x8, x9, p10.map .d, x11, x12, x13, x14, x15, x16, x17, x18, x19, x20, x21, x22, x23, none, none] := by
  have ei : evI O (.data (.var 4)) [s, st, t, x3, oL (eD m), x5, x6, x7, x8, x9, p10.map .d, x11, x12, x13, x14, x15, x16, x17, x18, x19, x20, x21, x22, x23, none, none] = .ok (eD m) [s, st, t, x3, oL (eD m), x5, x6, x7, x8, x9, p10.map .d, x11, x12, x13, x14, x15, x16, x17, x18, x19, x20, x21, x22, x23, none, none] := by
    generalize eD m = X
    simp
  have no : noOwn [s, st, t, x3, oL (eD m), x5, x6, x7, x8, x9, p10.map .d, x11, x12, x13, x14, x15, x16, x17, x18, x19, x20, x21, x22, x23, none, none] [10] = true := by cases p10 <;> rfl
  have z := x_lcfm (O := O) (elt := .var 10) (p := 10) (c := .cons c .nil) (qT g) (fun x => x) ei no (by simp) (sz_lt (by rw [List.length_map]; have := e_short hm; omega)) fun x hx => by
    obtain ⟨w, hw, rfl⟩ := sD_get hx
    refine ⟨?_, fun _ => ?_⟩
    · have : qT g (sD w) = g w := by
        show g (dT (tx w)) = g w
        rw [dT_tx]
      rw [this]
      exact hc w hw
    · show elF O (.var 10) [s, st, t, x3, oL (eD m), x5, x6, x7, x8, x9, oS (tx w), x11, x12, x13, x14, x15, x16, x17, x18, x19, x20, x21, x22, x23, none, none] = .ok (.str (tx w)) [s, st, t, x3, oL (eD m), x5, x6, x7, x8, x9, oS (tx w), x11, x12, x13, x14, x15, x16, x17, x18, x19, x20, x21, x22, x23, none, none]
      generalize tx w = T
      generalize eD m = X
      simp [elF]
  have hl := qT_len g (mts m)
  rw [map_self] at z
  have q := len_val z
  rw [hl] at q
  exact q
theorem q_t1 (O : Orc) (E0 : List PyData) (T : Str) (a b : Int) (f : Nat) (hf : O.cf f [.d (.str T)] = .ok (.d (.int a)) none) : evTs O (.cons (.cmp .eq (.call f (.cons (.var 10) .nil)) (.var 5)) .nil) [s, st, t, x3, oL E0, oI b, x6, x7, x8, x9, oS T, x11, x12, x13, x14, x15, x16, x17, x18, x19, x20, x21, x22, x23, none, none] = .ok (decide (a = b)) [s, st, t, x3, oL E0, oI b, x6, x7, x8, x9, oS T, x11, x12, x13, x14, x15, x16, x17, x18, x19, x20, x21, x22, x23, none, none] := by
  by_cases h : a = b
  · simp [hf, h]
  · simp [hf, h]
theorem q_t3 (O : Orc) (E0 A : List PyData) (T : Str) (a b : Int) (hf : O.cf 24 [.d (.str T)] = .ok (.own A) none) (hx : bltR .max [.list A] = some (.d (.int a))) : evTs O (.cons (.cmp .le (.blt .max (.cons (.call 24 (.cons (.var 10) .nil)) .nil)) (.var 6)) .nil) [s, st, t, x3, oL E0, x5, oI b, x7, x8, x9, oS T, x11, x12, x13, x14, x15, x16, x17, x18, x19, x20, x21, x22, x23, none, none] = .ok (decide (a ≤ b)) [s, st, t, x3, oL E0, x5, oI b, x7, x8, x9, oS T, x11, x12, x13, x14, x15, x16, x17, x18, x19, x20, x21, x22, x23, none, none] := by
  by_cases h : a ≤ b
  · simp [hf, hx, h]
  · simp [hf, hx, h]
end
section
variable (n : Nat)
variable {s st t x3 x4 x5 x6 x7 x8 x9 x11 x12 x13 x14 x15 x16 x17 x18 x19 x20 x21 x22 x23 : Option DV} {p10 : Option PyData}
theorem p1 (m : Nat) (hm : m < 7) : exS (OL n) z1 [s, st, t, oI m, x4, x5, x6, x7, x8, x9, p10.map .d, x11, x12, x13, x14, x15, x16, x17, x18, x19, x20, x21, x22, x23, none, none] = .ok .nx [s, st, t, oI m, oL (eD m), x5, x6, x7, x8, x9, p10.map .d, x11, x12, x13, x14, x15, x16, x17, x18, x19, x20, x21, x22, x23, none, none] := by
  have h : mo.cf (n + 6) 26 [.d (.int m)] = .ok (.d (.list (eD m))) none := by
    have z := c_lall (n + 4) m (by omega)
    rw [(f1 hm).1] at z
    exact z
  exact q_set (c_val (xs := [.int m]) (d_var rfl d_nil) h) (by simp)
/-- what is told of a number of steps -/
def TL (m : Nat) (few : Int) (most : Nat) : List PyData := [td (.list (eD m)), td (.int (bal m m)), td (.int (cPk m few)), td (.int (cRt m few)), td (.int (cHt m most))]
theorem p4 (m most : Nat) (few : Int) (hm : m < 7) (hh : most < 8) : exS (OL n) z4 [s, st, t, oI m, x4, oI few, oI most, x7, x8, x9, p10.map .d, x11, x12, x13, x14, x15, x16, x17, x18, x19, x20, x21, x22, x23, none, none] = .ok .nx [s, st, t, oI m, x4, oI few, oI most, some (.own (TL m few most)), x8, x9, p10.map .d, x11, x12, x13, x14, x15, x16, x17, x18, x19, x20, x21, x22, x23, none, none] := by
  have c1 : mo.cf (n + 6) 8 [.d (.int m)] = .ok (.own (eD m)) none := c_all (n + 4) m (by omega)
  have c2 : mo.cf (n + 6) 6 [.d (.int m)] = .ok (.d (.int (bal m m))) none := by
    have z := c_count (n + 4) (m : Int)
    rw [if_pos ⟨by omega, by omega⟩] at z
    exact z
  have c3 : mo.cf (n + 6) 16 [.d (.int m), .d (.int few)] = .ok (.d (.int (cPk m few))) none := c_cpeaks (n + 4) m few (by omega)
  have c4 : mo.cf (n + 6) 17 [.d (.int m), .d (.int few)] = .ok (.d (.int (cRt m few))) none := c_creturns (n + 4) m few (by omega)
  have c5 : mo.cf (n + 6) 18 [.d (.int m), .d (.int most)] = .ok (.d (.int (cHt m most))) none := c_cheight (n + 4) m most (by omega) (by omega)
  have t1 : ev (OL n) (.told tnm (.call 8 (.cons (.var 3) .nil))) [s, st, t, oI m, x4, oI few, oI most, x7, x8, x9, p10.map .d, x11, x12, x13, x14, x15, x16, x17, x18, x19, x20, x21, x22, x23, none, none] = .ok (.val (.d (td (.list (eD m))))) [s, st, t, oI m, x4, oI few, oI most, x7, x8, x9, p10.map .d, x11, x12, x13, x14, x15, x16, x17, x18, x19, x20, x21, x22, x23, none, none] := t_val (xs := [.int m]) (v := .own (eD m)) (d_var rfl d_nil) c1
  have t2 : ev (OL n) (.told tnm (.call 6 (.cons (.var 3) .nil))) [s, st, t, oI m, x4, oI few, oI most, x7, x8, x9, p10.map .d, x11, x12, x13, x14, x15, x16, x17, x18, x19, x20, x21, x22, x23, none, none] = .ok (.val (.d (td (.int (bal m m))))) [s, st, t, oI m, x4, oI few, oI most, x7, x8, x9, p10.map .d, x11, x12, x13, x14, x15, x16, x17, x18, x19, x20, x21, x22, x23, none, none] := t_val (xs := [.int m]) (v := .d (.int (bal m m))) (d_var rfl d_nil) c2
  have t3 : ev (OL n) (.told tnm (.call 16 (.cons (.var 3) (.cons (.var 5) .nil)))) [s, st, t, oI m, x4, oI few, oI most, x7, x8, x9, p10.map .d, x11, x12, x13, x14, x15, x16, x17, x18, x19, x20, x21, x22, x23, none, none] = .ok (.val (.d (td (.int (cPk m few))))) [s, st, t, oI m, x4, oI few, oI most, x7, x8, x9, p10.map .d, x11, x12, x13, x14, x15, x16, x17, x18, x19, x20, x21, x22, x23, none, none] := t_val (xs := [.int m, .int few]) (v := .d (.int (cPk m few))) (d_var rfl (d_var rfl d_nil)) c3
  have t4 : ev (OL n) (.told tnm (.call 17 (.cons (.var 3) (.cons (.var 5) .nil)))) [s, st, t, oI m, x4, oI few, oI most, x7, x8, x9, p10.map .d, x11, x12, x13, x14, x15, x16, x17, x18, x19, x20, x21, x22, x23, none, none] = .ok (.val (.d (td (.int (cRt m few))))) [s, st, t, oI m, x4, oI few, oI most, x7, x8, x9, p10.map .d, x11, x12, x13, x14, x15, x16, x17, x18, x19, x20, x21, x22, x23, none, none] := t_val (xs := [.int m, .int few]) (v := .d (.int (cRt m few))) (d_var rfl (d_var rfl d_nil)) c4
  have t5 : ev (OL n) (.told tnm (.call 18 (.cons (.var 3) (.cons (.var 6) .nil)))) [s, st, t, oI m, x4, oI few, oI most, x7, x8, x9, p10.map .d, x11, x12, x13, x14, x15, x16, x17, x18, x19, x20, x21, x22, x23, none, none] = .ok (.val (.d (td (.int (cHt m most))))) [s, st, t, oI m, x4, oI few, oI most, x7, x8, x9, p10.map .d, x11, x12, x13, x14, x15, x16, x17, x18, x19, x20, x21, x22, x23, none, none] := t_val (xs := [.int m, .int most]) (v := .d (.int (cHt m most))) (d_var rfl (d_var rfl d_nil)) c5
  exact q_set (l_val (xs := TL m few most) (d_val t1 (d_val t2 (d_val t3 (d_val t4 (d_val t5 d_nil))))) (by simp [TL])) (by simp)
theorem p5 (m most : Nat) (f : Nat) (hf : f < 9) (hm : m < 7) (hh : most < 8) : exS (OL n) z5 [s, st, t, x3, oL (eD m), oI ((f : Int) - 1), oI most, x7, x8, x9, p10.map .d, x11, x12, x13, x14, x15, x16, x17, x18, x19, x20, x21, x22, x23, none, none] = .ok .nx [s, st, t, x3, oL (eD m), oI ((f : Int) - 1), oI most, x7, some (.own (TL m ((f : Int) - 1) most)), x9, p10.map .d, x11, x12, x13, x14, x15, x16, x17, x18, x19, x20, x21, x22, x23, none, none] := by
  obtain ⟨g1, g2, g3, g4⟩ := f1 hm
  have e2 : ev (OL n) (.blt .len (.cons (.var 4) .nil)) [s, st, t, x3, oL (eD m), oI ((f : Int) - 1), oI most, x7, x8, x9, p10.map .d, x11, x12, x13, x14, x15, x16, x17, x18, x19, x20, x21, x22, x23, none, none] = .ok (.val (.d (.int (bal m m)))) [s, st, t, x3, oL (eD m), oI ((f : Int) - 1), oI most, x7, x8, x9, p10.map .d, x11, x12, x13, x14, x15, x16, x17, x18, x19, x20, x21, x22, x23, none, none] := by
    have z := len_var (O := OL n) (e := [s, st, t, x3, oL (eD m), oI ((f : Int) - 1), oI most, x7, x8, x9, p10.map .d, x11, x12, x13, x14, x15, x16, x17, x18, x19, x20, x21, x22, x23, none, none]) (i := 4) rfl
    rw [List.length_map, g2] at z
    exact z
  have e3 := q_cnt (s := s) (st := st) (t := t) (x3 := x3) (x5 := oI ((f : Int) - 1)) (x6 := oI most) (x7 := x7) (x8 := x8) (x9 := x9) (x11 := x11) (x12 := x12) (x13 := x13) (x14 := x14) (x15 := x15) (x16 := x16) (x17 := x17) (x18 := x18) (x19 := x19) (x20 := x20) (x21 := x21) (x22 := x22) (x23 := x23) (p10 := p10) (OL n) m hm (.cmp .eq (.call 30 (.cons (.var 10) .nil)) (.var 5)) (fun w => decide ((lpk w : Int) = (f : Int) - 1)) (fun w hw => q_t1 (OL n) (eD m) (tx w) (lpk w) ((f : Int) - 1) 30 (c_lpk (n + 5) w (by rw [mts_len hw]; omega)))
  have e4 := q_cnt (s := s) (st := st) (t := t) (x3 := x3) (x5 := oI ((f : Int) - 1)) (x6 := oI most) (x7 := x7) (x8 := x8) (x9 := x9) (x11 := x11) (x12 := x12) (x13 := x13) (x14 := x14) (x15 := x15) (x16 := x16) (x17 := x17) (x18 := x18) (x19 := x19) (x20 := x20) (x21 := x21) (x22 := x22) (x23 := x23) (p10 := p10) (OL n) m hm (.cmp .eq (.call 29 (.cons (.var 10) .nil)) (.var 5)) (fun w => decide (((lret w).length : Int) = (f : Int) - 1)) (fun w hw => q_t1 (OL n) (eD m) (tx w) ((lret w).length : Int) ((f : Int) - 1) 29 (c_lret (n + 4) w (by rw [mts_len hw]; omega)))
  have e5 := q_cnt (s := s) (st := st) (t := t) (x3 := x3) (x5 := oI ((f : Int) - 1)) (x6 := oI most) (x7 := x7) (x8 := x8) (x9 := x9) (x11 := x11) (x12 := x12) (x13 := x13) (x14 := x14) (x15 := x15) (x16 := x16) (x17 := x17) (x18 := x18) (x19 := x19) (x20 := x20) (x21 := x21) (x22 := x22) (x23 := x23) (p10 := p10) (OL n) m hm (.cmp .le (.blt .max (.cons (.call 24 (.cons (.var 10) .nil)) .nil)) (.var 6)) (fun w => decide (mxl w ≤ (most : Int))) (fun w hw => by
    obtain ⟨r, hr⟩ := lv_cons w 0
    have i1 : intsD ((lv 0 w).map .int) = some (0 :: r) := by rw [ints_map, hr]
    have em : mxl w = maxI 0 r := by unfold mxl; rw [hr]; rfl
    have i3 := bMaxL _ i1
    rw [← em] at i3
    exact q_t3 (OL n) (eD m) _ (tx w) (mxl w) most (c_llevels (n + 5) w (by rw [mts_len hw]; omega)) i3)
  rw [(g3 f hf).1] at e3
  rw [(g3 f hf).2] at e4
  rw [g4 most hh] at e5
  have e1 : ev (OL n) (.tup (.cons (.str "told") (.cons (.var 4) .nil))) [s, st, t, x3, oL (eD m), oI ((f : Int) - 1), oI most, x7, x8, x9, p10.map .d, x11, x12, x13, x14, x15, x16, x17, x18, x19, x20, x21, x22, x23, none, none] = .ok (.val (.d (td (.list (eD m))))) [s, st, t, x3, oL (eD m), oI ((f : Int) - 1), oI most, x7, x8, x9, p10.map .d, x11, x12, x13, x14, x15, x16, x17, x18, x19, x20, x21, x22, x23, none, none] := u_toldv rfl
  exact q_set (l_val (xs := TL m ((f : Int) - 1) most) (d_val e1 (d_val (u_told e2) (d_val (u_told e3) (d_val (u_told e4) (d_val (u_told e5) d_nil))))) (by simp [TL])) (by simp)
theorem eD_sh {m : Nat} (hm : m < 7) : ∀ x ∈ eD m, Sh 0 21000 x := fun x hx => by
  obtain ⟨w, hw, rfl⟩ := sD_get hx
  exact t_sh w (by rw [mts_len hw]; omega)
theorem p6 (X : List PyData) (d z : Nat) (hs : Sh d z (.list X)) (hd : d ≤ 59) (hz : z ≤ 16777000) : exS (OL n) z6 [s, st, t, x3, x4, x5, x6, some (.own X), some (.own X), x9, p10.map .d, x11, x12, x13, x14, x15, x16, x17, x18, x19, x20, x21, x22, x23, none, none] = .ok .nx [s, st, t, x3, x4, x5, x6, oL X, oL X, x9, p10.map .d, x11, x12, x13, x14, x15, x16, x17, x18, x19, x20, x21, x22, x23, none, none] :=
  s_same (x := .list X) (y := .list X) (d_own rfl (d_own rfl d_nil)) (c_same mo 21 rfl (n + 5) hs hd hz)
end
end K04
/-! k04, plain: the law's statements, second part. -/
namespace K04
open PySem Wd
theorem q_sub {O : Orc} {e e1 : DEnv} {a : E} {r k : Int} (ha : ev O a e = .ok (.val (.d (.int r))) e1) : ev O (.bin .sub a (.int k)) e = .ok (.val (.d (.int (r - k)))) e1 := by
  rw [x_bin, ha, R.bind_ok, x_int]
  rfl
theorem q_add {O : Orc} {e e1 : DEnv} {a : E} {r k : Int} (ha : ev O a e = .ok (.val (.d (.int r))) e1) : ev O (.bin .add a (.int k)) e = .ok (.val (.d (.int (r + k)))) e1 := by
  rw [x_bin, ha, R.bind_ok, x_int]
  rfl
abbrev ms : PyData := .tuple [.str "missing"]
theorem ms_sh : Sh 1 200 ms := (Sh.tuple (d := 0) (n := 80) (xs := [.str "missing"]) fun y hy => by
  rw [List.mem_singleton] at hy
  rw [hy]
  exact (Sh.str (chs_of "missing")).mono (by omega) (by decide +kernel)).mono (by omega) (by simp)
theorem td_sh {d z : Nat} {x : PyData} (h : Sh d z x) (hz : 50 ≤ z) : Sh (d + 1) (2 * z + 10) (td x) := (Sh.tuple (d := d) (n := z) (xs := [.str "told", x]) fun y hy => by
  rcases List.mem_cons.mp hy with rfl | hy
  · exact ((Sh.str (chs_of "told")).mono (d' := 0) (n' := 50) (by omega) (by decide +kernel)).mono (by omega) hz
  · rw [List.mem_singleton] at hy
    rw [hy]
    exact h).mono (by omega) (by simp; omega)
theorem sD_at {m i : Nat} {w : List Bool} (h : (mts m)[i]? = some w) : L2.atI (eD m) (i : Int) = some (sD w) := by
  have hi := (List.getElem?_eq_some_iff.mp h).1
  rw [at_nat _ (by rw [List.length_map]; exact hi), List.getElem?_map, h]
  rfl
section
variable (n : Nat)
variable {s st t x3 x4 x5 x6 x7 x8 x9 x10 x11 x12 x13 x14 x15 x16 x17 x18 x19 x20 x21 x22 x23 : Option DV}
theorem p7 (m : Nat) (S1 S2 : List PyData) (r : Int) (hc : mo.cf (n + 6) 23 [.own S1, .d (.int (((eD m).length : Int) + 2))] = .ok (.d (.int r)) (some S2)) : exS (OL n) z7 [s, some (.own S1), t, x3, oL (eD m), x5, x6, x7, x8, x9, x10, x11, x12, x13, x14, x15, x16, x17, x18, x19, x20, x21, x22, x23, none, none] = .ok .nx [s, some (.own S2), t, x3, oL (eD m), x5, x6, x7, x8, oI (r - 1), x10, x11, x12, x13, x14, x15, x16, x17, x18, x19, x20, x21, x22, x23, none, none] := by
  have e1 := v_next (O := OL n) (f := 23) (v := .d (.int r)) (S2 := S2) (e := [s, some (.own S1), t, x3, oL (eD m), x5, x6, x7, x8, x9, x10, x11, x12, x13, x14, x15, x16, x17, x18, x19, x20, x21, x22, x23, none, none]) (q_add (k := 2) (len_var (i := 4) rfl)) rfl hc
  exact q_set (q_sub e1) (by simp)
theorem p8 : exS (OL n) z8 [s, st, t, x3, x4, x5, x6, x7, x8, x9, x10, x11, x12, x13, x14, x15, x16, x17, x18, x19, x20, x21, x22, x23, none, none] = .ok .nx [s, st, t, x3, x4, x5, x6, x7, some (.d ms), x9, x10, x11, x12, x13, x14, x15, x16, x17, x18, x19, x20, x21, x22, x23, none, none] := q_set (u_val (xs := [.str "missing"]) (d_val (v := .d (.str "missing")) (x_str _ _ _) d_nil) (by simp)) (by simp)
theorem p9a (X : List PyData) (p : Int) (Y : PyData) (h0 : 0 ≤ p) (h1 : p < X.length) (hY : L2.atI X p = some Y) : exS (OL n) z9 [s, st, t, x3, oL X, x5, x6, x7, x8, oI p, x10, x11, x12, x13, x14, x15, x16, x17, x18, x19, x20, x21, x22, x23, none, none] = .ok .nx [s, st, t, x3, oL X, x5, x6, x7, some (.d (td Y)), oI p, x10, x11, x12, x13, x14, x15, x16, x17, x18, x19, x20, x21, x22, x23, none, none] := by
  simp [h0, h1, hY]
theorem p9b (X : List PyData) (p : Int) (h : ¬ (0 ≤ p ∧ p < X.length)) : exS (OL n) z9 [s, st, t, x3, oL X, x5, x6, x7, x8, oI p, x10, x11, x12, x13, x14, x15, x16, x17, x18, x19, x20, x21, x22, x23, none, none] = .ok .nx [s, st, t, x3, oL X, x5, x6, x7, x8, oI p, x10, x11, x12, x13, x14, x15, x16, x17, x18, x19, x20, x21, x22, x23, none, none] := by
  by_cases h0 : 0 ≤ p
  · have h1 : ¬ p < X.length := fun z => h ⟨h0, z⟩
    simp [h0, h1]
  · simp [h0]
theorem p10a (m : Nat) (p : Int) (D : PyData) (z : Nat) (hD : Sh 2 z D) (hz : z ≤ 100000) (ht : ev (OL n) (.told tnm (.call 10 (.cons (.var 3) (.cons (.var 9) .nil)))) [s, st, t, oI m, x4, x5, x6, x7, some (.d D), oI p, x10, x11, x12, x13, x14, x15, x16, x17, x18, x19, x20, x21, x22, x23, none, none] = .ok (.val (.d D)) [s, st, t, oI m, x4, x5, x6, x7, some (.d D), oI p, x10, x11, x12, x13, x14, x15, x16, x17, x18, x19, x20, x21, x22, x23, none, none]) : exS (OL n) z10 [s, st, t, oI m, x4, x5, x6, x7, some (.d D), oI p, x10, x11, x12, x13, x14, x15, x16, x17, x18, x19, x20, x21, x22, x23, none, none] = .ok .nx [s, st, t, oI m, x4, x5, x6, x7, some (.d D), oI p, x10, x11, x12, x13, x14, x15, x16, x17, x18, x19, x20, x21, x22, x23, none, none] :=
  s_same (x := D) (y := D) (d_val (v := .d D) ht (d_var rfl d_nil)) (c_same mo 21 rfl (n + 5) hD (by omega) (by omega))
theorem p11 (X S1 S2 : List PyData) (r : Int) (Y : PyData) (hc : mo.cf (n + 6) 23 [.own S1, .d (.int (X.length : Int))] = .ok (.d (.int r)) (some S2)) (hY : L2.atI X r = some Y) : exS (OL n) z11 [s, some (.own S1), t, x3, oL X, x5, x6, x7, x8, x9, x10, x11, x12, x13, x14, x15, x16, x17, x18, x19, x20, x21, x22, x23, none, none] = .ok .nx [s, some (.own S2), t, x3, oL X, x5, x6, x7, x8, x9, some (.d Y), x11, x12, x13, x14, x15, x16, x17, x18, x19, x20, x21, x22, x23, none, none] := by
  have e1 := v_next (O := OL n) (f := 23) (v := .d (.int r)) (S2 := S2) (e := [s, some (.own S1), t, x3, oL X, x5, x6, x7, x8, x9, x10, x11, x12, x13, x14, x15, x16, x17, x18, x19, x20, x21, x22, x23, none, none]) (len_var (i := 4) rfl) rfl hc
  have e2 : ev (OL n) (.idx (.var 4) (.callm 23 1 (.cons (.blt .len (.cons (.var 4) .nil)) .nil))) [s, some (.own S1), t, x3, oL X, x5, x6, x7, x8, x9, x10, x11, x12, x13, x14, x15, x16, x17, x18, x19, x20, x21, x22, x23, none, none] = .ok (.val (.d Y)) [s, some (.own S2), t, x3, oL X, x5, x6, x7, x8, x9, x10, x11, x12, x13, x14, x15, x16, x17, x18, x19, x20, x21, x22, x23, none, none] := by
    rw [x_idx, v_slot (i := 4) (v := .d (.list X)) rfl, R.bind_ok, e1, R.bind_ok]
    show lift1 ((ixd (.list X) (.int r)).map PV.val) _ = _
    rw [o_ixl, hY]
    rfl
  exact q_set e2 (by simp)
theorem p12 (w : List Bool) (hw : w.length ≤ 100) : exS (OL n) z12 [s, st, t, x3, x4, x5, x6, x7, x8, x9, oS (tx w), x11, x12, x13, x14, x15, x16, x17, x18, x19, x20, x21, x22, x23, none, none] = .ok .nx [s, st, t, x3, x4, x5, x6, x7, x8, x9, oS (tx w), some (.own ((lv 0 w).map .int)), x12, x13, x14, x15, x16, x17, x18, x19, x20, x21, x22, x23, none, none] :=
  q_set (c_val (xs := [.str (tx w)]) (d_var rfl d_nil) (c_llevels (n + 5) w (by omega))) (by simp)
theorem p13 (X : List PyData) (Y : PyData) (i : Int) (h : mthL .index (.list X) Y = some (.d (.int i))) : exS (OL n) z13 [s, st, t, x3, oL X, x5, x6, x7, x8, x9, some (.d Y), x11, x12, x13, x14, x15, x16, x17, x18, x19, x20, x21, x22, x23, none, none] = .ok .nx [s, st, t, x3, oL X, x5, x6, x7, x8, x9, some (.d Y), x11, oI i, x13, x14, x15, x16, x17, x18, x19, x20, x21, x22, x23, none, none] := by
  simp [h]
theorem e_flip2 (O : Orc) (e e1 : DEnv) (el : I) (p : Nat) (v : List Bool) (hp : p < e1.length) (hn : noOwn e1 [p] = true) (hl : v.length ≤ 3000) (h : evI O el e = .ok (v.map fun b => .str (lt b)) e1) : ev O (.lc (.idx (.lst (.cons (.str "u") (.cons (.str "d") .nil))) (.blt .int (.cons (.cmp .eq (.var p) (.str "u")) .nil))) (.name p) el .nil [p]) e = .ok (.val (.own ((v.map (!·)).map fun b => .str (lt b)))) e1 := by
  have z := x_lcm (O := O) (elt := .idx (.lst (.cons (.str "u") (.cons (.str "d") .nil))) (.blt .int (.cons (.cmp .eq (.var p) (.str "u")) .nil))) (p := p) (fB fun z => if z = ("u" : Str) then .str "d" else .str "u") h hn hp (sz_lt (by rw [List.length_map]; omega)) fun x hx => by
    obtain ⟨b, _, rfl⟩ := List.mem_map.mp hx
    have g1 : (e1.set p (oS (lt b)))[p]? = some (oS (lt b)) := List.getElem?_set_self hp
    have e3 : decide (lt b = ("u" : Str)) = b := lt_u b
    cases b with
    | true =>
      have e4 : lt true = ("u" : Str) := of_decide_eq_true e3
      have e2 : cm2 .eq (.str (lt true)) (.str "u") = some true := by
        show some (decide (lt true = ("u" : Str))) = _
        rw [e3]
      generalize lt true = Z at *
      simp [elF, g1, e2, fB, -o_eqs]
      simp [e4]
    | false =>
      have e4 : ¬ lt false = ("u" : Str) := of_decide_eq_false e3
      have e2 : cm2 .eq (.str (lt false)) (.str "u") = some false := by
        show some (decide (lt false = ("u" : Str))) = _
        rw [e3]
      simp [elF, g1, e2, fB, e4, -o_eqs]
  rw [map_fB (fun b => .str (lt (!b))) _ (fun b => ?_)] at z
  · rw [z, List.map_map]
    rfl
  · cases b with
    | true =>
      rw [if_pos (of_decide_eq_true (lt_u true)), t_d]
      rfl
    | false =>
      rw [if_neg (of_decide_eq_false (lt_u false)), t_u]
      rfl
theorem p14 (w : List Bool) (hw : w.length ≤ 100) : exS (OL n) z14 [s, st, t, x3, x4, x5, x6, x7, x8, x9, oS (tx w), x11, x12, x13, x14, x15, x16, x17, x18, x19, x20, x21, x22, x23, none, none] = .ok .nx [s, st, t, x3, x4, x5, x6, x7, x8, x9, oS (tx w), x11, x12, oS (tx (flip w)), x14, x15, x16, x17, x18, x19, x20, x21, x22, x23, none, none] := by
  have rt := rev_tx w (by omega)
  have ti := t_items w.reverse
  have ei : evI (OL n) (.data (.rev (.var 10))) [s, st, t, x3, x4, x5, x6, x7, x8, x9, oS (tx w), x11, x12, x13, x14, x15, x16, x17, x18, x19, x20, x21, x22, x23, none, none] = .ok (w.reverse.map fun b => .str (lt b)) [s, st, t, x3, x4, x5, x6, x7, x8, x9, oS (tx w), x11, x12, x13, x14, x15, x16, x17, x18, x19, x20, x21, x22, x23, none, none] := by
    generalize tx w.reverse = T' at *
    generalize tx w = T at *
    simp [rt, ti]
  have ef := e_flip2 (OL n) _ _ (.data (.rev (.var 10))) 24 w.reverse (by simp) rfl (by rw [List.length_reverse]; omega) ei
  have ej := e_join (OL n) _ _ (flip w) (by unfold flip; rw [List.length_map, List.length_reverse]; omega) ef
  exact q_set ej (by simp)
/-- what is told of a mountain -/
def T6 (w : List Bool) (a N : PyData) : List PyData := [td a, N, td (.int (pk w)), td (.int (mxl w)), td (.int (ret0 w)), td (.int (lv 0 w).sum)]
theorem p15 (w : List Bool) (hw : w.length ≤ 100) (hg : gd 0 w = true) (N : PyData) (hN : ev (OL n) (.told tnm (.call 11 (.cons (.var 10) .nil))) [s, st, t, x3, x4, x5, x6, x7, x8, x9, oS (tx w), x11, x12, x13, x14, x15, x16, x17, x18, x19, x20, x21, x22, x23, none, none] = .ok (.val (.d N)) [s, st, t, x3, x4, x5, x6, x7, x8, x9, oS (tx w), x11, x12, x13, x14, x15, x16, x17, x18, x19, x20, x21, x22, x23, none, none]) : exS (OL n) z15 [s, st, t, x3, x4, x5, x6, x7, x8, x9, oS (tx w), x11, x12, x13, x14, x15, x16, x17, x18, x19, x20, x21, x22, x23, none, none] = .ok .nx [s, st, t, x3, x4, x5, x6, some (.own (T6 w (.int (plc w)) N)), x8, x9, oS (tx w), x11, x12, x13, x14, x15, x16, x17, x18, x19, x20, x21, x22, x23, none, none] := by
  have c9 : mo.cf (n + 6) 9 [.d (.str (tx w))] = _ := c_place (n + 2) w (by omega) hg
  have c12 : mo.cf (n + 6) 12 [.d (.str (tx w))] = _ := c_peaks (n + 2) w (by omega) hg
  have c13 : mo.cf (n + 6) 13 [.d (.str (tx w))] = _ := c_height (n + 2) w (by omega) hg
  have c14 : mo.cf (n + 6) 14 [.d (.str (tx w))] = _ := c_returns (n + 2) w (by omega) hg
  have c15 : mo.cf (n + 6) 15 [.d (.str (tx w))] = _ := c_area (n + 2) w (by omega) hg
  have t1 : ev (OL n) (.told tnm (.call 9 (.cons (.var 10) .nil))) [s, st, t, x3, x4, x5, x6, x7, x8, x9, oS (tx w), x11, x12, x13, x14, x15, x16, x17, x18, x19, x20, x21, x22, x23, none, none] = .ok (.val (.d (td (.int (plc w))))) [s, st, t, x3, x4, x5, x6, x7, x8, x9, oS (tx w), x11, x12, x13, x14, x15, x16, x17, x18, x19, x20, x21, x22, x23, none, none] := t_val (xs := [.str (tx w)]) (v := .d (.int (plc w))) (d_var rfl d_nil) c9
  have t3 : ev (OL n) (.told tnm (.call 12 (.cons (.var 10) .nil))) [s, st, t, x3, x4, x5, x6, x7, x8, x9, oS (tx w), x11, x12, x13, x14, x15, x16, x17, x18, x19, x20, x21, x22, x23, none, none] = .ok (.val (.d (td (.int (pk w))))) [s, st, t, x3, x4, x5, x6, x7, x8, x9, oS (tx w), x11, x12, x13, x14, x15, x16, x17, x18, x19, x20, x21, x22, x23, none, none] := t_val (xs := [.str (tx w)]) (v := .d (.int (pk w))) (d_var rfl d_nil) c12
  have t4 : ev (OL n) (.told tnm (.call 13 (.cons (.var 10) .nil))) [s, st, t, x3, x4, x5, x6, x7, x8, x9, oS (tx w), x11, x12, x13, x14, x15, x16, x17, x18, x19, x20, x21, x22, x23, none, none] = .ok (.val (.d (td (.int (mxl w))))) [s, st, t, x3, x4, x5, x6, x7, x8, x9, oS (tx w), x11, x12, x13, x14, x15, x16, x17, x18, x19, x20, x21, x22, x23, none, none] := t_val (xs := [.str (tx w)]) (v := .d (.int (mxl w))) (d_var rfl d_nil) c13
  have t5 : ev (OL n) (.told tnm (.call 14 (.cons (.var 10) .nil))) [s, st, t, x3, x4, x5, x6, x7, x8, x9, oS (tx w), x11, x12, x13, x14, x15, x16, x17, x18, x19, x20, x21, x22, x23, none, none] = .ok (.val (.d (td (.int (ret0 w))))) [s, st, t, x3, x4, x5, x6, x7, x8, x9, oS (tx w), x11, x12, x13, x14, x15, x16, x17, x18, x19, x20, x21, x22, x23, none, none] := t_val (xs := [.str (tx w)]) (v := .d (.int (ret0 w))) (d_var rfl d_nil) c14
  have t6 : ev (OL n) (.told tnm (.call 15 (.cons (.var 10) .nil))) [s, st, t, x3, x4, x5, x6, x7, x8, x9, oS (tx w), x11, x12, x13, x14, x15, x16, x17, x18, x19, x20, x21, x22, x23, none, none] = .ok (.val (.d (td (.int (lv 0 w).sum)))) [s, st, t, x3, x4, x5, x6, x7, x8, x9, oS (tx w), x11, x12, x13, x14, x15, x16, x17, x18, x19, x20, x21, x22, x23, none, none] := t_val (xs := [.str (tx w)]) (v := .d (.int (lv 0 w).sum)) (d_var rfl d_nil) c15
  exact q_set (l_val (xs := T6 w (.int (plc w)) N) (d_val t1 (d_val (v := .d N) hN (d_val t3 (d_val t4 (d_val t5 (d_val t6 d_nil)))))) (by simp [T6])) (by simp)
theorem p16 (w : List Bool) (i : Int) (hw : w.length ≤ 100) (h1 : pk w = lpk w) (h2 : ret0 w = (lret w).length) : exS (OL n) z16 [s, st, t, x3, x4, x5, x6, x7, x8, x9, oS (tx w), some (.own ((lv 0 w).map .int)), oI i, x13, x14, x15, x16, x17, x18, x19, x20, x21, x22, x23, none, none] = .ok .nx [s, st, t, x3, x4, x5, x6, x7, some (.own (T6 w (.int i) ms)), x9, oS (tx w), some (.own ((lv 0 w).map .int)), oI i, x13, x14, x15, x16, x17, x18, x19, x20, x21, x22, x23, none, none] := by
  have c30 : mo.cf (n + 6) 30 [.d (.str (tx w))] = _ := c_lpk (n + 5) w (by omega)
  have c29 : mo.cf (n + 6) 29 [.d (.str (tx w))] = _ := c_lret (n + 4) w (by omega)
  rw [← h1] at c30
  rw [← h2] at c29
  obtain ⟨r, hr⟩ := lv_cons w 0
  have i1 : intsD ((lv 0 w).map .int) = some (0 :: r) := by rw [ints_map, hr]
  have em : mxl w = maxI 0 r := by unfold mxl; rw [hr]; rfl
  have i3 := bMaxL _ i1
  rw [← em] at i3
  have i4 : bltR .sum [.list ((lv 0 w).map .int)] = some (.d (.int (lv 0 w).sum)) := by
    rw [o_suml, ints_map]
    rfl
  have t1 : ev (OL n) (.tup (.cons (.str "told") (.cons (.var 12) .nil))) [s, st, t, x3, x4, x5, x6, x7, x8, x9, oS (tx w), some (.own ((lv 0 w).map .int)), oI i, x13, x14, x15, x16, x17, x18, x19, x20, x21, x22, x23, none, none] = .ok (.val (.d (td (.int i)))) [s, st, t, x3, x4, x5, x6, x7, x8, x9, oS (tx w), some (.own ((lv 0 w).map .int)), oI i, x13, x14, x15, x16, x17, x18, x19, x20, x21, x22, x23, none, none] := u_toldv rfl
  have t2 : ev (OL n) (.tup (.cons (.str "missing") .nil)) [s, st, t, x3, x4, x5, x6, x7, x8, x9, oS (tx w), some (.own ((lv 0 w).map .int)), oI i, x13, x14, x15, x16, x17, x18, x19, x20, x21, x22, x23, none, none] = .ok (.val (.d ms)) [s, st, t, x3, x4, x5, x6, x7, x8, x9, oS (tx w), some (.own ((lv 0 w).map .int)), oI i, x13, x14, x15, x16, x17, x18, x19, x20, x21, x22, x23, none, none] := u_val (xs := [.str "missing"]) (d_val (v := .d (.str "missing")) (x_str _ _ _) d_nil) (by simp)
  have t3 : ev (OL n) (.call 30 (.cons (.var 10) .nil)) [s, st, t, x3, x4, x5, x6, x7, x8, x9, oS (tx w), some (.own ((lv 0 w).map .int)), oI i, x13, x14, x15, x16, x17, x18, x19, x20, x21, x22, x23, none, none] = .ok (.val (.d (.int (pk w)))) [s, st, t, x3, x4, x5, x6, x7, x8, x9, oS (tx w), some (.own ((lv 0 w).map .int)), oI i, x13, x14, x15, x16, x17, x18, x19, x20, x21, x22, x23, none, none] := c_val (xs := [.str (tx w)]) (d_var rfl d_nil) c30
  have t5 : ev (OL n) (.call 29 (.cons (.var 10) .nil)) [s, st, t, x3, x4, x5, x6, x7, x8, x9, oS (tx w), some (.own ((lv 0 w).map .int)), oI i, x13, x14, x15, x16, x17, x18, x19, x20, x21, x22, x23, none, none] = .ok (.val (.d (.int (ret0 w)))) [s, st, t, x3, x4, x5, x6, x7, x8, x9, oS (tx w), some (.own ((lv 0 w).map .int)), oI i, x13, x14, x15, x16, x17, x18, x19, x20, x21, x22, x23, none, none] := c_val (xs := [.str (tx w)]) (d_var rfl d_nil) c29
  have t4 : ev (OL n) (.blt .max (.cons (.var 11) .nil)) [s, st, t, x3, x4, x5, x6, x7, x8, x9, oS (tx w), some (.own ((lv 0 w).map .int)), oI i, x13, x14, x15, x16, x17, x18, x19, x20, x21, x22, x23, none, none] = .ok (.val (.d (.int (mxl w)))) [s, st, t, x3, x4, x5, x6, x7, x8, x9, oS (tx w), some (.own ((lv 0 w).map .int)), oI i, x13, x14, x15, x16, x17, x18, x19, x20, x21, x22, x23, none, none] := by
    generalize (lv 0 w).map PyData.int = A at *
    generalize tx w = T at *
    simp [i3]
  have t6 : ev (OL n) (.blt .sum (.cons (.var 11) .nil)) [s, st, t, x3, x4, x5, x6, x7, x8, x9, oS (tx w), some (.own ((lv 0 w).map .int)), oI i, x13, x14, x15, x16, x17, x18, x19, x20, x21, x22, x23, none, none] = .ok (.val (.d (.int (lv 0 w).sum))) [s, st, t, x3, x4, x5, x6, x7, x8, x9, oS (tx w), some (.own ((lv 0 w).map .int)), oI i, x13, x14, x15, x16, x17, x18, x19, x20, x21, x22, x23, none, none] := by
    generalize (lv 0 w).sum = Z at *
    generalize (lv 0 w).map PyData.int = A at *
    generalize tx w = T at *
    simp [i4, -o_suml]
  exact q_set (l_val (xs := T6 w (.int i) ms) (d_val t1 (d_val t2 (d_val (u_told t3) (d_val (u_told t4) (d_val (u_told t5) (d_val (u_told t6) d_nil)))))) (by simp [T6])) (by simp)
theorem p17a (X Z : List PyData) (a c Y : PyData) (i : Int) (h : i + 1 < X.length) (hY : L2.atI X (i + 1) = some Y) : exS (OL n) z17 [s, st, t, x3, oL X, x5, x6, x7, some (.own (a :: c :: Z)), x9, x10, x11, oI i, x13, x14, x15, x16, x17, x18, x19, x20, x21, x22, x23, none, none] = .ok .nx [s, st, t, x3, oL X, x5, x6, x7, some (.own (a :: td Y :: Z)), x9, x10, x11, oI i, x13, x14, x15, x16, x17, x18, x19, x20, x21, x22, x23, none, none] := by
  have ix : L2.ixN (a :: c :: Z).length 1 = some 1 := by
    have := ixn_nat (n := 1) (m := (a :: c :: Z).length) (by simp)
    exact this
  simp at ix
  simp [h, hY, ix]
theorem p17b (X : List PyData) (i : Int) (v8 : Option DV) (h : ¬ i + 1 < X.length) : exS (OL n) z17 [s, st, t, x3, oL X, x5, x6, x7, v8, x9, x10, x11, oI i, x13, x14, x15, x16, x17, x18, x19, x20, x21, x22, x23, none, none] = .ok .nx [s, st, t, x3, oL X, x5, x6, x7, v8, x9, x10, x11, oI i, x13, x14, x15, x16, x17, x18, x19, x20, x21, x22, x23, none, none] := by
  simp [h]
theorem p18 (X : List PyData) (d z : Nat) (hs : Sh d z (.list X)) (hd : d ≤ 59) (hz : z ≤ 16777000) : exS (OL n) z18 [s, st, t, x3, x4, x5, x6, some (.own X), some (.own X), x9, x10, x11, x12, x13, x14, x15, x16, x17, x18, x19, x20, x21, x22, x23, none, none] = .ok .nx [s, st, t, x3, x4, x5, x6, oL X, oL X, x9, x10, x11, x12, x13, x14, x15, x16, x17, x18, x19, x20, x21, x22, x23, none, none] :=
  s_same (x := .list X) (y := .list X) (d_own rfl (d_own rfl d_nil)) (c_same mo 21 rfl (n + 5) hs hd hz)
theorem p19 : exS (OL n) z19 [s, st, t, x3, x4, x5, x6, x7, x8, x9, x10, x11, x12, x13, x14, x15, x16, x17, x18, x19, x20, x21, x22, x23, none, none] = .ok .nx [s, st, t, x3, x4, x5, x6, x7, some (.d ms), x9, x10, x11, x12, x13, x14, x15, x16, x17, x18, x19, x20, x21, x22, x23, none, none] := q_set (u_val (xs := [.str "missing"]) (d_val (v := .d (.str "missing")) (x_str _ _ _) d_nil) (by simp)) (by simp)
theorem ne_empty (w : List Bool) : cm2 .ne (.str (tx w)) (.str "") = some (!decide (w = [])) := by
  show some (!decide (tx w = ("" : Str))) = _
  rw [t_0, tx_dec]
  cases w <;> rfl
theorem p20a (v8 : Option DV) : exS (OL n) z20 [s, st, t, x3, x4, x5, x6, x7, v8, x9, oS (tx []), x11, x12, x13, x14, x15, x16, x17, x18, x19, x20, x21, x22, x23, none, none] = .ok .nx [s, st, t, x3, x4, x5, x6, x7, v8, x9, oS (tx []), x11, x12, x13, x14, x15, x16, x17, x18, x19, x20, x21, x22, x23, none, none] := by
  have h := ne_empty []
  generalize tx [] = T at *
  simp [h, -o_nes]
theorem p20 (w : List Bool) (e0 : Nat) (r : List Nat) (hw : w.length ≤ 100) (h0 : w ≠ []) (hr : lret w = e0 :: r) : exS (OL n) z20 [s, st, t, x3, x4, x5, x6, x7, x8, x9, oS (tx w), some (.own ((lv 0 w).map .int)), x12, x13, x14, x15, x16, x17, x18, x19, x20, x21, x22, x23, none, none] = .ok .nx [s, st, t, x3, x4, x5, x6, x7, some (.d (td (.tuple [.str (tx (cutB w (some 1) (some ((e0 : Int) - 1)))), .str (tx (cutB w (some (e0 : Int)) none))]))), x9, oS (tx w), some (.own ((lv 0 w).map .int)), x12, x13, oI e0, x15, x16, x17, x18, x19, x20, x21, x22, x23, none, none] := by
  have hne := ne_empty w
  rw [decide_eq_false h0] at hne
  have ei : evI (OL n) (.rng2 (.int 1) (.bin .add (.blt .len (.cons (.var 10) .nil)) (.int 1))) [s, st, t, x3, x4, x5, x6, x7, x8, x9, oS (tx w), some (.own ((lv 0 w).map .int)), x12, x13, x14, x15, x16, x17, x18, x19, x20, x21, x22, x23, none, none] = .ok (rangeD 1 w.length) [s, st, t, x3, x4, x5, x6, x7, x8, x9, oS (tx w), some (.own ((lv 0 w).map .int)), x12, x13, x14, x15, x16, x17, x18, x19, x20, x21, x22, x23, none, none] := by
    have e1 := e_len1 (OL n) [s, st, t, x3, x4, x5, x6, x7, x8, x9, oS (tx w), some (.own ((lv 0 w).map .int)), x12, x13, x14, x15, x16, x17, x18, x19, x20, x21, x22, x23, none, none] (tx w) 10 rfl (by rw [t_len]; omega)
    rw [t_len] at e1
    have z := rng2_ev (O := OL n) (a := .int 1) (x := 1) rfl e1 (by omega) (by omega)
    rw [show (((w.length + 1 : Nat) : Int) - 1).toNat = w.length by omega] at z
    exact z
  have z := x_lcfm (O := OL n) (elt := .var 25) (p := 25) (c := .cons (.cmp .eq (.idx (.var 11) (.var 25)) (.int 0)) .nil) (qN fun k => (lv 0 w)[k]? == some 0) (fun x => x) ei rfl (by simp) (sz_lt (by simp [rangeD]; omega)) fun x hx => by
    obtain ⟨k, hk⟩ := List.getElem?_of_mem hx
    obtain ⟨hk1, rfl⟩ := rangeD_get hk
    refine ⟨?_, fun _ => by
      generalize (lv 0 w).map PyData.int = A at *
      generalize tx w = T at *
      simp [elF]⟩
    have hl := lv_len w 0
    obtain ⟨v, hv⟩ : ∃ v, (lv 0 w)[k + 1]? = some v := ⟨_, List.getElem?_eq_getElem (show k + 1 < (lv 0 w).length by omega)⟩
    have ha : L2.atI ((lv 0 w).map PyData.int) (1 + (k : Int)) = some (.int v) := by
      rw [show (1 + (k : Int)) = ((k + 1 : Nat) : Int) by omega, at_nat _ (by rw [List.length_map]; omega), List.getElem?_map, hv]
      rfl
    have hq : qN (fun k => (lv 0 w)[k]? == some 0) (.int (1 + (k : Int))) = decide (v = 0) := by
      show ((lv 0 w)[(1 + (k : Int)).toNat]? == some 0) = _
      rw [show (1 + (k : Int)).toNat = k + 1 by omega, hv, Bool.eq_iff_iff, beq_iff_eq, decide_eq_true_eq]
      simp
    rw [hq]
    generalize (lv 0 w).map PyData.int = A at *
    generalize tx w = T at *
    generalize 1 + (k : Int) = K at *
    by_cases h : v = 0
    · simp [ha, h]
    · simp [ha, h]
  rw [rngF1, map_self] at z
  have hm : (((List.range w.length).filter fun k => (lv 0 w)[k + 1]? == some 0).map fun k : Nat => PyData.int ((k + 1 : Nat) : Int)) = (lret w).map fun k : Nat => PyData.int (k : Int) := by
    unfold lret
    rw [List.map_map]
    rfl
  rw [hm, hr, List.map_cons] at z
  have c1 : slcd (.str (tx w)) (some 1) (some ((e0 : Int) - 1)) = some (.d (.str (tx (cutB w (some 1) (some ((e0 : Int) - 1)))))) := by
    rw [o_slcs (by rw [t_len]; omega), t_cut]
  have c2 : slcd (.str (tx w)) (some (e0 : Int)) none = some (.d (.str (tx (cutB w (some (e0 : Int)) none)))) := by
    rw [o_slcs (by rw [t_len]; omega), t_cut]
  generalize tx (cutB w (some 1) (some ((e0 : Int) - 1))) = T1 at *
  generalize tx (cutB w (some (e0 : Int)) none) = T2 at *
  generalize r.map (fun k : Nat => PyData.int (k : Int)) = RR at *
  generalize (lv 0 w).map PyData.int = A at *
  generalize tx w = T at *
  generalize (e0 : Int) = K at *
  have et : evT (OL n) (.cmp .ne (.var 10) (.str "")) [s, st, t, x3, x4, x5, x6, x7, x8, x9, oS T, some (.own A), x12, x13, x14, x15, x16, x17, x18, x19, x20, x21, x22, x23, none, none] = .ok true [s, st, t, x3, x4, x5, x6, x7, x8, x9, oS T, some (.own A), x12, x13, x14, x15, x16, x17, x18, x19, x20, x21, x22, x23, none, none] := by simp [hne, -o_nes]
  rw [x_ifs, et, R.bind_ok, if_pos rfl]
  have q : ∀ (el : E), ev (OL n) el [s, st, t, x3, x4, x5, x6, x7, x8, x9, oS T, some (.own A), x12, x13, x14, x15, x16, x17, x18, x19, x20, x21, x22, x23, none, none] = .ok (.val (.own (.int K :: RR))) [s, st, t, x3, x4, x5, x6, x7, x8, x9, oS T, some (.own A), x12, x13, x14, x15, x16, x17, x18, x19, x20, x21, x22, x23, none, none] → exS (OL n) (.set 14 (.idx el (.int 0))) [s, st, t, x3, x4, x5, x6, x7, x8, x9, oS T, some (.own A), x12, x13, x14, x15, x16, x17, x18, x19, x20, x21, x22, x23, none, none] = .ok .nx [s, st, t, x3, x4, x5, x6, x7, x8, x9, oS T, some (.own A), x12, x13, oI K, x15, x16, x17, x18, x19, x20, x21, x22, x23, none, none] := fun el h => by simp [h]
  refine run_cons (q _ z) (run_cons (e1 := [s, st, t, x3, x4, x5, x6, x7, some (.d (td (.tuple [.str T1, .str T2]))), x9, oS T, some (.own A), x12, x13, oI K, x15, x16, x17, x18, x19, x20, x21, x22, x23, none, none]) ?_ rfl)
  simp [c1, c2]
theorem p21 (w : List Bool) (hw : w.length ≤ 100) (hg : gd 0 w = true) (D : PyData) (z : Nat) (hD : Sh 2 z D) (h50 : 50 ≤ z) (hz : z ≤ 100000) (hF : ev (OL n) (.told tnm (.call 19 (.cons (.var 10) .nil))) [s, st, t, x3, x4, x5, x6, x7, some (.d D), x9, oS (tx w), x11, x12, oS (tx (flip w)), x14, x15, x16, x17, x18, x19, x20, x21, x22, x23, none, none] = .ok (.val (.d D)) [s, st, t, x3, x4, x5, x6, x7, some (.d D), x9, oS (tx w), x11, x12, oS (tx (flip w)), x14, x15, x16, x17, x18, x19, x20, x21, x22, x23, none, none]) : exS (OL n) z21 [s, st, t, x3, x4, x5, x6, x7, some (.d D), x9, oS (tx w), x11, x12, oS (tx (flip w)), x14, x15, x16, x17, x18, x19, x20, x21, x22, x23, none, none] = .ok .nx [s, st, t, x3, x4, x5, x6, x7, some (.d D), x9, oS (tx w), x11, x12, oS (tx (flip w)), x14, x15, x16, x17, x18, x19, x20, x21, x22, x23, none, none] := by
  have c20 : mo.cf (n + 6) 20 [.d (.str (tx w))] = _ := c_turned (n + 2) w (by omega) hg
  have t2 : ev (OL n) (.told tnm (.call 20 (.cons (.var 10) .nil))) [s, st, t, x3, x4, x5, x6, x7, some (.d D), x9, oS (tx w), x11, x12, oS (tx (flip w)), x14, x15, x16, x17, x18, x19, x20, x21, x22, x23, none, none] = .ok (.val (.d (td (sD (flip w))))) [s, st, t, x3, x4, x5, x6, x7, some (.d D), x9, oS (tx w), x11, x12, oS (tx (flip w)), x14, x15, x16, x17, x18, x19, x20, x21, x22, x23, none, none] := t_val (xs := [.str (tx w)]) (v := .d (sD (flip w))) (d_var rfl d_nil) c20
  have a1 : ev (OL n) (.lst (.cons (.told tnm (.call 19 (.cons (.var 10) .nil))) (.cons (.told tnm (.call 20 (.cons (.var 10) .nil))) .nil))) [s, st, t, x3, x4, x5, x6, x7, some (.d D), x9, oS (tx w), x11, x12, oS (tx (flip w)), x14, x15, x16, x17, x18, x19, x20, x21, x22, x23, none, none] = .ok (.val (.own [D, td (sD (flip w))])) [s, st, t, x3, x4, x5, x6, x7, some (.d D), x9, oS (tx w), x11, x12, oS (tx (flip w)), x14, x15, x16, x17, x18, x19, x20, x21, x22, x23, none, none] := l_val (d_val (v := .d D) hF (d_val t2 d_nil)) (by simp)
  have t3 : ev (OL n) (.tup (.cons (.str "told") (.cons (.var 13) .nil))) [s, st, t, x3, x4, x5, x6, x7, some (.d D), x9, oS (tx w), x11, x12, oS (tx (flip w)), x14, x15, x16, x17, x18, x19, x20, x21, x22, x23, none, none] = .ok (.val (.d (td (sD (flip w))))) [s, st, t, x3, x4, x5, x6, x7, some (.d D), x9, oS (tx w), x11, x12, oS (tx (flip w)), x14, x15, x16, x17, x18, x19, x20, x21, x22, x23, none, none] := u_toldv rfl
  have a2 : ev (OL n) (.lst (.cons (.var 8) (.cons (.tup (.cons (.str "told") (.cons (.var 13) .nil))) .nil))) [s, st, t, x3, x4, x5, x6, x7, some (.d D), x9, oS (tx w), x11, x12, oS (tx (flip w)), x14, x15, x16, x17, x18, x19, x20, x21, x22, x23, none, none] = .ok (.val (.own [D, td (sD (flip w))])) [s, st, t, x3, x4, x5, x6, x7, some (.d D), x9, oS (tx w), x11, x12, oS (tx (flip w)), x14, x15, x16, x17, x18, x19, x20, x21, x22, x23, none, none] := l_val (d_var rfl (d_val t3 d_nil)) (by simp)
  have fl : (flip w).length = w.length := by unfold flip; rw [List.length_map, List.length_reverse]
  have sh : Sh 3 1000000 (.list [D, td (sD (flip w))]) := (Sh.list (d := 2) (n := 100000) fun y hy => by
    rcases List.mem_cons.mp hy with rfl | hy
    · exact hD.mono (by omega) hz
    · rw [List.mem_singleton] at hy
      rw [hy]
      exact (td_sh (t_sh (flip w) (by omega)) (by omega)).mono (by omega) (by omega)).mono (by omega) (by simp)
  exact s_same (x := .list [D, td (sD (flip w))]) (y := .list [D, td (sD (flip w))]) (d_val (v := .own [D, td (sD (flip w))]) a1 (d_val (v := .own [D, td (sD (flip w))]) a2 d_nil)) (c_same mo 21 rfl (n + 5) sh (by omega) (by omega))
end
end K04
/-! k04, plain: the law's statements, third part. -/
namespace K04
open PySem Wd
abbrev stt (L : List Int) (j : Nat) : Option DV := some (.own (St L j))
theorem e_joinE (O : Orc) (e e1 : DEnv) (el : E) (v : List Bool) (hl : v.length ≤ 3000) (h : ev O el e = .ok (.val (.own (v.map fun b => .str (lt b)))) e1) : ev O (.m1 .join (.str "") el) e = .ok (.val (.d (.str (tx v)))) e1 := by
  have e0 : ("" : Str).length = 0 := by decide +kernel
  have e1 : mth1 .join "" (.list (v.map fun b => .str (lt b))) = some (.d (.str (tx v))) := by
    simp only [mth1, o_seql, Option.bind_some, strs_map]
    rw [if_pos (by rw [sum_lt, e0]; omega), t_join]
  generalize tx v = T at *
  generalize (v.map fun b => PyData.str (lt b)) = A at *
  simp [h, e1]
theorem cat_mul (k : Nat) : (k + 1) * (ch (2 * k) k / (k + 1)) = ch (2 * k) k := by
  refine Nat.mul_div_cancel' ?_
  cases k with
  | zero => exact ⟨1, rfl⟩
  | succ k =>
    have h := ch_abs (2 * (k + 1)) k (by omega)
    rw [show 2 * (k + 1) - k = k + 1 + 1 by omega] at h
    refine ⟨ch (2 * (k + 1)) (k + 1) - ch (2 * (k + 1)) k, ?_⟩
    rw [Nat.mul_sub, ← h, Nat.add_mul (k + 1) 1]
    omega
theorem cat_lt (k : Nat) (p : Int) : p * (k + 1) < (ch (2 * k) k : Nat) ↔ p < bal k k := by
  have h := cat_mul k
  have e : ((ch (2 * k) k : Nat) : Int) = bal k k * ((k : Int) + 1) := by
    have h' : (((k + 1) * (ch (2 * k) k / (k + 1)) : Nat) : Int) = ((ch (2 * k) k : Nat) : Int) := by rw [h]
    rw [bal_cat, ← h', Int.natCast_mul, Int.mul_comm]
    rfl
  rw [e]
  constructor
  · intro z
    exact Int.lt_of_mul_lt_mul_right z (by omega)
  · intro z
    exact Int.mul_lt_mul_of_pos_right z (by omega)
theorem ne3 (a b c : Int) : cm2 .ne (.list [.int a, .int b, .int c]) (.list [.int a, .int b, .int c]) = some false := by
  have s := shaped_ints [a, b, c]
  simp only [List.map_cons, List.map_nil] at s
  have ev : PyData.eqv (.list [.int a, .int b, .int c]) (.list [.int a, .int b, .int c]) = true := by
    simp [PyData.eqv, PyData.eqvAll]
  have ok : eqOk (.list [.int a, .int b, .int c]) (.list [.int a, .int b, .int c]) = true := by
    unfold eqOk
    rw [s]
    rfl
  have e1 : cm2 .ne (.list [.int a, .int b, .int c]) (.list [.int a, .int b, .int c]) = (eqd (.list [.int a, .int b, .int c]) (.list [.int a, .int b, .int c])).map (!·) := rfl
  rw [e1, eqd_ok _ _ ok (fun _ _ h => by cases h), ev]
  rfl
section
variable (n : Nat) (L : List Int) (hL : Ok L)
variable {s st t x3 x4 x5 x6 x7 x8 x9 x10 x11 x12 x13 x14 x15 x16 x17 x18 x19 x20 x21 x22 x23 : Option DV}
include hL in
theorem p22 (j : Nat) (hj : j < 700000) : ∃ (j1 : Nat) (v : List Bool), j1 ≤ j + 10 ∧ v.length ≤ 8 ∧ exS (OL n) z22 [s, stt L j, t, x3, x4, x5, x6, x7, x8, x9, x10, x11, x12, x13, x14, x15, x16, x17, x18, x19, x20, x21, x22, x23, none, none] = .ok .nx [s, stt L j1, t, x3, x4, x5, x6, x7, x8, x9, x10, x11, x12, x13, x14, oS (tx v), x16, x17, x18, x19, x20, x21, x22, x23, none, none] := by
  obtain ⟨r1, j1, h1, g1, e1⟩ := c_nextJ mo 23 rfl (n + 5) L j 9 hL (by omega) (by omega)
  have ei : evI (OL n) (.rng1 (.callm 23 1 (.cons (.int 9) .nil))) [s, stt L j, t, x3, x4, x5, x6, x7, x8, x9, x10, x11, x12, x13, x14, x15, x16, x17, x18, x19, x20, x21, x22, x23, none, none] = .ok (rangeD 0 r1) [s, stt L j1, t, x3, x4, x5, x6, x7, x8, x9, x10, x11, x12, x13, x14, x15, x16, x17, x18, x19, x20, x21, x22, x23, none, none] := by
    have e2 := v_next (O := OL n) (f := 23) (v := .d (.int r1)) (S2 := St L j1) (e := [s, stt L j, t, x3, x4, x5, x6, x7, x8, x9, x10, x11, x12, x13, x14, x15, x16, x17, x18, x19, x20, x21, x22, x23, none, none]) (x_int _ _ 9) rfl e1
    exact i_rng e2 (sm_few (by omega))
  obtain ⟨ys, e, h2, j2, v, rfl, rfl, h3, h5⟩ := lcGo_run (g := .name 25) (own := [25]) (tst := evTs (OL n) .nil) (elt := elF (OL n) (.idx (.lst (.cons (.str "u") (.cons (.str "d") .nil))) (.callm 23 1 (.cons (.int 2) .nil)))) (fun i acc e => ∃ (j2 : Nat) (v : List Bool), e = [s, stt L j2, t, x3, x4, x5, x6, x7, x8, x9, x10, x11, x12, x13, x14, x15, x16, x17, x18, x19, x20, x21, x22, x23, none, none] ∧ acc = (v.map fun b => PyData.str (lt b)) ∧ v.length = i ∧ j2 ≤ j1 + i)
      (rangeD 0 r1) 0 [] [s, stt L j1, t, x3, x4, x5, x6, x7, x8, x9, x10, x11, x12, x13, x14, x15, x16, x17, x18, x19, x20, x21, x22, x23, none, none] ⟨j1, [], rfl, rfl, rfl, by omega⟩ (fun i x acc e hx he => by
      obtain ⟨j2, v, rfl, rfl, h3, h5⟩ := he
      obtain ⟨hi, rfl⟩ := range_get hx
      obtain ⟨r, j3, h6, g6, e6⟩ := c_nextJ mo 23 rfl (n + 5) L j2 2 hL (by omega) (by omega)
      have key : ∀ (b : Bool), L2.atI [PyData.str "u", .str "d"] (r : Int) = some (.str (lt b)) → ∃ e1 e2, bindT (.name 25) (.int i) (wipeD [s, stt L j2, t, x3, x4, x5, x6, x7, x8, x9, x10, x11, x12, x13, x14, x15, x16, x17, x18, x19, x20, x21, x22, x23, none, none] [25]) = some e1 ∧ ((evTs (OL n) .nil e1 = .ok false e2 ∧ (∃ (j2' : Nat) (v' : List Bool), unwipe [s, stt L j2, t, x3, x4, x5, x6, x7, x8, x9, x10, x11, x12, x13, x14, x15, x16, x17, x18, x19, x20, x21, x22, x23, none, none] e2 [25] = [s, stt L j2', t, x3, x4, x5, x6, x7, x8, x9, x10, x11, x12, x13, x14, x15, x16, x17, x18, x19, x20, x21, x22, x23, none, none] ∧ (v.map fun b => PyData.str (lt b)) = (v'.map fun b => PyData.str (lt b)) ∧ v'.length = 0 + i + 1 ∧ j2' ≤ j1 + (0 + i + 1))) ∨ (evTs (OL n) .nil e1 = .ok true e2 ∧ ∃ y e3, elF (OL n) (.idx (.lst (.cons (.str "u") (.cons (.str "d") .nil))) (.callm 23 1 (.cons (.int 2) .nil))) e2 = .ok y e3 ∧ (v.map fun b => PyData.str (lt b)).length < sizeLine ∧ (∃ (j2' : Nat) (v' : List Bool), unwipe [s, stt L j2, t, x3, x4, x5, x6, x7, x8, x9, x10, x11, x12, x13, x14, x15, x16, x17, x18, x19, x20, x21, x22, x23, none, none] e3 [25] = [s, stt L j2', t, x3, x4, x5, x6, x7, x8, x9, x10, x11, x12, x13, x14, x15, x16, x17, x18, x19, x20, x21, x22, x23, none, none] ∧ (v.map fun b => PyData.str (lt b)) ++ [y] = (v'.map fun b => PyData.str (lt b)) ∧ v'.length = 0 + i + 1 ∧ j2' ≤ j1 + (0 + i + 1)))) := fun b hb => by
        refine ⟨[s, stt L j2, t, x3, x4, x5, x6, x7, x8, x9, x10, x11, x12, x13, x14, x15, x16, x17, x18, x19, x20, x21, x22, x23, none, iD i], [s, stt L j2, t, x3, x4, x5, x6, x7, x8, x9, x10, x11, x12, x13, x14, x15, x16, x17, x18, x19, x20, x21, x22, x23, none, iD i], rfl, .inr ⟨rfl, .str (lt b), [s, stt L j3, t, x3, x4, x5, x6, x7, x8, x9, x10, x11, x12, x13, x14, x15, x16, x17, x18, x19, x20, x21, x22, x23, none, iD i], ?_, ?_, j3, v ++ [b], rfl, ?_, ?_, by omega⟩⟩
        · generalize lt b = B at *
          simp [elF, e6, hb]
        · rw [List.length_map]
          exact sz_lt (by omega)
        · rw [List.map_append]
          rfl
        · rw [List.length_append, h3]
          rfl
      have hr : r = 0 ∨ r = 1 := by omega
      rcases hr with rfl | rfl
      · exact key true (by rw [← t_u]; rfl)
      · exact key false (by rw [← t_d]; rfl))
  rw [range_len] at h3 h5
  refine ⟨j2, v, by omega, by omega, ?_⟩
  have el : ev (OL n) (.lc (.idx (.lst (.cons (.str "u") (.cons (.str "d") .nil))) (.callm 23 1 (.cons (.int 2) .nil))) (.name 25) (.rng1 (.callm 23 1 (.cons (.int 9) .nil))) .nil [25]) [s, stt L j, t, x3, x4, x5, x6, x7, x8, x9, x10, x11, x12, x13, x14, x15, x16, x17, x18, x19, x20, x21, x22, x23, none, none] = .ok (.val (.own (v.map fun b => .str (lt b)))) [s, stt L j2, t, x3, x4, x5, x6, x7, x8, x9, x10, x11, x12, x13, x14, x15, x16, x17, x18, x19, x20, x21, x22, x23, none, none] := by
    have e0 : ev (OL n) (.lc (.idx (.lst (.cons (.str "u") (.cons (.str "d") .nil))) (.callm 23 1 (.cons (.int 2) .nil))) (.name 25) (.rng1 (.callm 23 1 (.cons (.int 9) .nil))) .nil [25]) [s, stt L j, t, x3, x4, x5, x6, x7, x8, x9, x10, x11, x12, x13, x14, x15, x16, x17, x18, x19, x20, x21, x22, x23, none, none] = (evI (OL n) (.rng1 (.callm 23 1 (.cons (.int 9) .nil))) [s, stt L j, t, x3, x4, x5, x6, x7, x8, x9, x10, x11, x12, x13, x14, x15, x16, x17, x18, x19, x20, x21, x22, x23, none, none]).bind (fun xs e1 => if noOwn e1 [25] then (lcGo (.name 25) [25] (evTs (OL n) .nil) (elF (OL n) (.idx (.lst (.cons (.str "u") (.cons (.str "d") .nil))) (.callm 23 1 (.cons (.int 2) .nil)))) xs [] e1).bind fun ys e2 => R.ok (PV.val (DV.own ys)) e2 else .bad) := rfl
    have no : noOwn [s, stt L j1, t, x3, x4, x5, x6, x7, x8, x9, x10, x11, x12, x13, x14, x15, x16, x17, x18, x19, x20, x21, x22, x23, none, none] [25] = true := rfl
    rw [e0, ei, R.bind_ok, if_pos no, h2]
    rfl
  exact q_set (e_joinE (OL n) _ _ _ v (by omega) el) (by simp)
abbrev fB23 : Ss := .cons (.ifs (.nott (.tru (.call 21 (.cons (.told tnm (.call 4 (.cons (.var 16) .nil))) (.cons (.tup (.cons (.str "told") (.cons (.call 25 (.cons (.var 16) .nil)) .nil))) .nil))))) (.cons (.ret (.bl false)) .nil) .nil) .nil
theorem one23 (x : List Bool) (hx : x.length ≤ 500) : exSs (OL n) fB23 [s, st, t, x3, x4, x5, x6, x7, x8, x9, x10, x11, x12, x13, x14, x15, oS (tx x), x17, x18, x19, x20, x21, x22, x23, none, none] = .ok .nx [s, st, t, x3, x4, x5, x6, x7, x8, x9, x10, x11, x12, x13, x14, x15, oS (tx x), x17, x18, x19, x20, x21, x22, x23, none, none] := by
  have c4 : mo.cf (n + 6) 4 [.d (.str (tx x))] = _ := c_ism (n + 4) x (by omega)
  have c25 : mo.cf (n + 6) 25 [.d (.str (tx x))] = _ := c_lgood (n + 4) x (by omega)
  have t1 : ev (OL n) (.told tnm (.call 4 (.cons (.var 16) .nil))) [s, st, t, x3, x4, x5, x6, x7, x8, x9, x10, x11, x12, x13, x14, x15, oS (tx x), x17, x18, x19, x20, x21, x22, x23, none, none] = .ok (.val (.d (td (.bool (gd 0 x))))) [s, st, t, x3, x4, x5, x6, x7, x8, x9, x10, x11, x12, x13, x14, x15, oS (tx x), x17, x18, x19, x20, x21, x22, x23, none, none] := t_val (xs := [.str (tx x)]) (v := .d (.bool (gd 0 x))) (d_var rfl d_nil) c4
  have t2 : ev (OL n) (.call 25 (.cons (.var 16) .nil)) [s, st, t, x3, x4, x5, x6, x7, x8, x9, x10, x11, x12, x13, x14, x15, oS (tx x), x17, x18, x19, x20, x21, x22, x23, none, none] = .ok (.val (.d (.bool (gd 0 x)))) [s, st, t, x3, x4, x5, x6, x7, x8, x9, x10, x11, x12, x13, x14, x15, oS (tx x), x17, x18, x19, x20, x21, x22, x23, none, none] := c_val (xs := [.str (tx x)]) (d_var rfl d_nil) c25
  have sh := td_sh (x := .bool (gd 0 x)) ((Sh.bool (b := gd 0 x)).mono (d' := 0) (n' := 50) (by omega) (by omega)) (by omega)
  exact run_cons (s_same (x := td (.bool (gd 0 x))) (y := td (.bool (gd 0 x))) (d_val t1 (d_val (u_told t2) d_nil)) (c_same mo 21 rfl (n + 5) sh (by omega) (by omega))) rfl
theorem loop23 : ∀ (xs : List (List Bool)) (o : Option DV), (∀ x ∈ xs, x.length ≤ 500) → ∃ o', forL (.name 16) (exSs (OL n) fB23) (xs.map sD) [s, st, t, x3, x4, x5, x6, x7, x8, x9, x10, x11, x12, x13, x14, x15, o, x17, x18, x19, x20, x21, x22, x23, none, none] = .ok .nx [s, st, t, x3, x4, x5, x6, x7, x8, x9, x10, x11, x12, x13, x14, x15, o', x17, x18, x19, x20, x21, x22, x23, none, none]
  | [], o, _ => ⟨o, rfl⟩
  | x :: xs, o, h => by
    obtain ⟨o', ih⟩ := loop23 xs (oS (tx x)) fun y hy => h y (List.mem_cons_of_mem _ hy)
    refine ⟨o', ?_⟩
    rw [List.map_cons]
    unfold forL
    rw [show bindT (.name 16) (sD x) [s, st, t, x3, x4, x5, x6, x7, x8, x9, x10, x11, x12, x13, x14, x15, o, x17, x18, x19, x20, x21, x22, x23, none, none] = some [s, st, t, x3, x4, x5, x6, x7, x8, x9, x10, x11, x12, x13, x14, x15, oS (tx x), x17, x18, x19, x20, x21, x22, x23, none, none] from rfl]
    dsimp only
    rw [one23 n x (h x List.mem_cons_self), R.bind_ok]
    exact ih
theorem p23 (w v : List Bool) (hw : w.length ≤ 100) (hv : v.length ≤ 100) : ∃ o', exS (OL n) z23 [s, st, t, x3, x4, x5, x6, x7, x8, x9, oS (tx w), x11, x12, x13, x14, oS (tx v), x16, x17, x18, x19, x20, x21, x22, x23, none, none] = .ok .nx [s, st, t, x3, x4, x5, x6, x7, x8, x9, oS (tx w), x11, x12, x13, x14, oS (tx v), o', x17, x18, x19, x20, x21, x22, x23, none, none] := by
  obtain ⟨o', lo⟩ := loop23 (s := s) (st := st) (t := t) (x3 := x3) (x4 := x4) (x5 := x5) (x6 := x6) (x7 := x7) (x8 := x8) (x9 := x9) (x10 := oS (tx w)) (x11 := x11) (x12 := x12) (x13 := x13) (x14 := x14) (x15 := oS (tx v)) (x17 := x17) (x18 := x18) (x19 := x19) (x20 := x20) (x21 := x21) (x22 := x22) (x23 := x23) n [w, v, cutB w (some 1) none, w ++ [true, false], [false] ++ w ++ [true], w.reverse] x16 (fun x hx => by
    have cb : (cutB w (some 1) none).length ≤ w.length := by
      unfold cutB
      rw [List.length_take, List.length_drop]
      omega
    simp only [List.mem_cons, List.not_mem_nil, or_false] at hx
    rcases hx with rfl | rfl | rfl | rfl | rfl | rfl
    · omega
    · omega
    · omega
    · rw [List.length_append]; simp; omega
    · rw [List.length_append, List.length_append]; simp; omega
    · rw [List.length_reverse]; omega)
  refine ⟨o', ?_⟩
  have e3 : ev (OL n) (.slc (.var 10) (.so (.int 1)) .no) [s, st, t, x3, x4, x5, x6, x7, x8, x9, oS (tx w), x11, x12, x13, x14, oS (tx v), x16, x17, x18, x19, x20, x21, x22, x23, none, none] = .ok (.val (.d (sD (cutB w (some 1) none)))) [s, st, t, x3, x4, x5, x6, x7, x8, x9, oS (tx w), x11, x12, x13, x14, oS (tx v), x16, x17, x18, x19, x20, x21, x22, x23, none, none] := by
    have h := o_slcs (s := tx w) (by rw [t_len]; omega) (some 1) none
    rw [t_cut] at h
    show _ = R.ok (PV.val (DV.d (.str (tx (cutB w (some 1) none))))) _
    generalize tx (cutB w (some 1) none) = Y at *
    generalize tx w = T at *
    simp [h]
  have e4 : ev (OL n) (.bin .add (.var 10) (.str "ud")) [s, st, t, x3, x4, x5, x6, x7, x8, x9, oS (tx w), x11, x12, x13, x14, oS (tx v), x16, x17, x18, x19, x20, x21, x22, x23, none, none] = .ok (.val (.d (sD (w ++ [true, false])))) [s, st, t, x3, x4, x5, x6, x7, x8, x9, oS (tx w), x11, x12, x13, x14, oS (tx v), x16, x17, x18, x19, x20, x21, x22, x23, none, none] := by
    have h : tx w ++ ("ud" : Str) = tx (w ++ [true, false]) := by rw [t_ud, t_app]
    have l1 : (tx w).length + ("ud" : Str).length ≤ sizeLine := by
      have : ("ud" : Str).length = 2 := by decide +kernel
      rw [this, t_len]
      exact sz_of (by omega)
    show _ = R.ok (PV.val (DV.d (.str (tx (w ++ [true, false]))))) _
    rw [← h]
    generalize tx w = T at *
    simp [l1]
  have e5 : ev (OL n) (.bin .add (.bin .add (.str "d") (.var 10)) (.str "u")) [s, st, t, x3, x4, x5, x6, x7, x8, x9, oS (tx w), x11, x12, x13, x14, oS (tx v), x16, x17, x18, x19, x20, x21, x22, x23, none, none] = .ok (.val (.d (sD ([false] ++ w ++ [true])))) [s, st, t, x3, x4, x5, x6, x7, x8, x9, oS (tx w), x11, x12, x13, x14, oS (tx v), x16, x17, x18, x19, x20, x21, x22, x23, none, none] := by
    have h : ("d" : Str) ++ tx w ++ ("u" : Str) = tx ([false] ++ w ++ [true]) := by rw [t_d, t_u, t_1, t_1, t_app, t_app]
    have l1 : ("d" : Str).length + (tx w).length ≤ sizeLine := by
      have : ("d" : Str).length = 1 := by decide +kernel
      rw [this, t_len]
      exact sz_of (by omega)
    have l2 : (("d" : Str) ++ tx w).length + ("u" : Str).length ≤ sizeLine := by
      have q1 : ("d" : Str).length = 1 := by decide +kernel
      have q2 : ("u" : Str).length = 1 := by decide +kernel
      rw [strLen_append, q1, q2, t_len]
      exact sz_of (by omega)
    show _ = R.ok (PV.val (DV.d (.str (tx ([false] ++ w ++ [true]))))) _
    rw [← h]
    generalize tx w = T at *
    simp only [x_bin, x_str, R.bind_ok, v_slot (i := 10) (v := .d (.str T)) (e := [s, st, t, x3, x4, x5, x6, x7, x8, x9, oS T, x11, x12, x13, x14, oS (tx v), x16, x17, x18, x19, x20, x21, x22, x23, none, none]) rfl, r_slot (i := 10) (v := .d (.str T)) (e := [s, st, t, x3, x4, x5, x6, x7, x8, x9, oS T, x11, x12, x13, x14, oS (tx v), x16, x17, x18, x19, x20, x21, x22, x23, none, none]) rfl, x_res1, x_dd, Option.bind_some, o_adds, if_pos l1, Option.map_some, x_lift, if_pos l2]
  have e6 : ev (OL n) (.rev (.var 10)) [s, st, t, x3, x4, x5, x6, x7, x8, x9, oS (tx w), x11, x12, x13, x14, oS (tx v), x16, x17, x18, x19, x20, x21, x22, x23, none, none] = .ok (.val (.d (sD w.reverse))) [s, st, t, x3, x4, x5, x6, x7, x8, x9, oS (tx w), x11, x12, x13, x14, oS (tx v), x16, x17, x18, x19, x20, x21, x22, x23, none, none] := by
    have h := rev_tx w (by omega)
    show _ = R.ok (PV.val (DV.d (.str (tx w.reverse)))) _
    generalize tx w.reverse = Y at *
    generalize tx w = T at *
    simp [h]
  have el := l_val (O := OL n) (xs := [sD w, sD v, sD (cutB w (some 1) none), sD (w ++ [true, false]), sD ([false] ++ w ++ [true]), sD w.reverse]) (e := [s, st, t, x3, x4, x5, x6, x7, x8, x9, oS (tx w), x11, x12, x13, x14, oS (tx v), x16, x17, x18, x19, x20, x21, x22, x23, none, none]) (d_var (i := 10) rfl (d_var (i := 15) rfl (d_val e3 (d_val e4 (d_val e5 (d_val e6 d_nil)))))) (by simp)
  have ei : evI (OL n) (.data (.lst (.cons (.var 10) (.cons (.var 15) (.cons (.slc (.var 10) (.so (.int 1)) .no) (.cons (.bin .add (.var 10) (.str "ud")) (.cons (.bin .add (.bin .add (.str "d") (.var 10)) (.str "u")) (.cons (.rev (.var 10)) .nil)))))))) [s, st, t, x3, x4, x5, x6, x7, x8, x9, oS (tx w), x11, x12, x13, x14, oS (tx v), x16, x17, x18, x19, x20, x21, x22, x23, none, none] = .ok [sD w, sD v, sD (cutB w (some 1) none), sD (w ++ [true, false]), sD ([false] ++ w ++ [true]), sD w.reverse] [s, st, t, x3, x4, x5, x6, x7, x8, x9, oS (tx w), x11, x12, x13, x14, oS (tx v), x16, x17, x18, x19, x20, x21, x22, x23, none, none] := by
    rw [x_idata, el]
    rfl
  rw [x_fors, ei, R.bind_ok]
  exact lo
include hL in
theorem p24 (j : Nat) (hj : j < 700000) : ∃ (j1 g : Nat), j1 ≤ j + 2 ∧ 1 ≤ g ∧ g ≤ 1000 ∧ exS (OL n) z24 [s, stt L j, t, x3, x4, x5, x6, x7, x8, x9, x10, x11, x12, x13, x14, x15, x16, x17, x18, x19, x20, x21, x22, x23, none, none] = .ok .nx [s, stt L j1, t, x3, x4, x5, x6, x7, x8, x9, x10, x11, x12, x13, x14, x15, x16, oI g, x18, x19, x20, x21, x22, x23, none, none] := by
  obtain ⟨r1, j1, h1, g1, e1⟩ := c_nextJ mo 23 rfl (n + 5) L j 2 hL (by omega) (by omega)
  obtain ⟨w, hw0, hw1, hw⟩ : ∃ w : Int, 0 < w ∧ w ≤ 1000 ∧ L2.atI [PyData.int 40, PyData.int 1000] (r1 : Int) = some (PyData.int w) := by
    have : r1 = 0 ∨ r1 = 1 := by omega
    rcases this with rfl | rfl
    · exact ⟨40, by omega, by omega, rfl⟩
    · exact ⟨1000, by omega, by omega, rfl⟩
  obtain ⟨r2, j2, h2, g2, e2⟩ := c_nextJ mo 23 rfl (n + 5) L j1 w hL (by omega) (by omega)
  refine ⟨j2, 1 + r2, by omega, by omega, by omega, ?_⟩
  show _ = R.ok Fl.nx [s, stt L j2, t, x3, x4, x5, x6, x7, x8, x9, x10, x11, x12, x13, x14, x15, x16, oI ((1 + r2 : Nat) : Int), x18, x19, x20, x21, x22, x23, none, none]
  rw [show ((1 + r2 : Nat) : Int) = 1 + (r2 : Int) by omega]
  simp [e1, e2, hw]
include hL in
theorem p25 (j g : Nat) (hj : j < 700000) (hg : 1 ≤ g) : ∃ (j1 p : Nat), j1 ≤ j + 1 ∧ 1 ≤ p ∧ p ≤ g ∧ exS (OL n) z25 [s, stt L j, t, x3, x4, x5, x6, x7, x8, x9, x10, x11, x12, x13, x14, x15, x16, oI g, x18, x19, x20, x21, x22, x23, none, none] = .ok .nx [s, stt L j1, t, x3, x4, x5, x6, x7, x8, x9, x10, x11, x12, x13, x14, x15, x16, oI g, oI p, x19, x20, x21, x22, x23, none, none] := by
  obtain ⟨r1, j1, h1, g1, e1⟩ := c_nextJ mo 23 rfl (n + 5) L j g hL (by omega) (by omega)
  refine ⟨j1, 1 + r1, by omega, by omega, by omega, ?_⟩
  rw [show ((1 + r1 : Nat) : Int) = 1 + (r1 : Int) by omega]
  simp [e1]
theorem p26 (g : Nat) (hg : g ≤ 1000) : exS (OL n) z26 [s, st, t, x3, x4, x5, x6, x7, x8, x9, x10, x11, x12, x13, x14, x15, x16, oI g, x18, x19, x20, x21, x22, x23, none, none] = .ok .nx [s, st, t, x3, x4, x5, x6, x7, x8, x9, x10, x11, x12, x13, x14, x15, x16, oI g, x18, oI (bal g g), x20, x21, x22, x23, none, none] := by
  have cc := c_lchoose (n + 5) (2 * g) (g : Int) (by omega)
  rw [show ((2 * g : Nat) : Int) = 2 * (g : Int) by omega] at cc
  have m1 : mulOk 2 (g : Int) = true := Bd.mulOk (k := 20) (l := 20) (by unfold Bd; decide) (Bd.of (by omega) (by omega)) (by omega)
  have b3 : Bd 20 ((g : Int) + 1) := Bd.of (by omega) (by omega)
  have d1 := b3.divOk (by omega) (by omega)
  have ev : (chI (2 * g) (g : Int)).fdiv ((g : Int) + 1) = bal g g := by
    rw [bal_cat, chI_nat, show (g : Int) + 1 = ((g + 1 : Nat) : Int) by omega, fdiv_nat]
  generalize chI (2 * g) (g : Int) = C at *
  generalize bal (g : Int) (g : Int) = B at *
  generalize (g : Int) = G at *
  simp [cc, m1, d1, ev]
theorem p27 (g p : Nat) (w : Int) (hg : 1 ≤ g ∧ g ≤ 1000) (hp : 1 ≤ p ∧ p ≤ g) : exS (OL n) z27 [s, st, t, x3, x4, x5, x6, x7, x8, x9, x10, x11, x12, x13, x14, x15, x16, oI g, oI p, oI w, x20, x21, x22, x23, none, none] = .ok .nx [s, st, t, x3, x4, x5, x6, x7, x8, x9, x10, x11, x12, x13, x14, x15, x16, oI g, oI p, oI w, some (.own [.int w, .int (cPk g p), .int (cRt g p)]), x21, x22, x23, none, none] := by
  have c1 := c_lchoose (n + 5) g (p : Int) (by omega)
  have c2 := c_lchoose (n + 5) g ((p : Int) - 1) (by omega)
  have c3 := c_lchoose (n + 5) (2 * (g : Int) - p).toNat g (by omega)
  rw [show (((2 * (g : Int) - p).toNat : Nat) : Int) = 2 * (g : Int) - p by omega] at c3
  have b1 := ch_bd g p (by omega)
  have b2 := ch_bd g ((p : Int) - 1) (by omega)
  have b3 := ch_bd (2 * (g : Int) - p).toNat g (by omega)
  have bp : Bd 20 (p : Int) := Bd.of (by omega) (by omega)
  have bg : Bd 20 (g : Int) := Bd.of (by omega) (by omega)
  have bs : Bd 20 (2 * (g : Int) - p) := Bd.of (by omega) (by omega)
  have m0 : mulOk 2 (g : Int) = true := Bd.mulOk (k := 20) (l := 20) (by unfold Bd; decide) bg (by omega)
  have m1 := b1.mulOk b2 (by omega)
  have m2 := bp.mulOk b3 (by omega)
  have d1 := bg.divOk (by omega) (by omega)
  have d2 := bs.divOk (by omega) (by omega)
  have q1 : cPk g p = (chI g p * chI g ((p : Int) - 1)).fdiv g := by unfold cPk; rw [if_neg (by omega)]
  have q2 : cRt g p = ((p : Int) * chI (2 * (g : Int) - p).toNat g).fdiv (2 * (g : Int) - p) := by unfold cRt; rw [if_neg (by omega), if_pos (by omega)]
  rw [q1, q2]
  generalize chI g p = A at *
  generalize chI g ((p : Int) - 1) = B at *
  generalize chI (2 * (g : Int) - p).toNat g = C at *
  generalize (g : Int) = G at *
  generalize (p : Int) = P at *
  simp [c1, c2, c3, m0, m1, m2, d1, d2]
theorem p28 (g p : Nat) (hg : 1 ≤ g ∧ g ≤ 1000) : exS (OL n) z28 [s, st, t, x3, x4, x5, x6, x7, x8, x9, x10, x11, x12, x13, x14, x15, x16, oI g, oI p, x19, some (.own [.int (bal g g), .int (cPk g p), .int (cRt g p)]), x21, x22, x23, none, none] = .ok .nx [s, st, t, x3, x4, x5, x6, x7, x8, x9, x10, x11, x12, x13, x14, x15, x16, oI g, oI p, x19, some (.own [.int (bal g g), .int (cPk g p), .int (cRt g p)]), x21, x22, x23, none, none] := by
  have c1 : mo.cf (n + 6) 6 [.d (.int g)] = .ok (.d (.int (bal g g))) none := by
    have z := c_count (n + 4) (g : Int)
    rw [if_pos ⟨by omega, by omega⟩] at z
    exact z
  have c2 : mo.cf (n + 6) 16 [.d (.int g), .d (.int p)] = .ok (.d (.int (cPk g p))) none := c_cpeaks (n + 4) g p (by omega)
  have c3 : mo.cf (n + 6) 17 [.d (.int g), .d (.int p)] = .ok (.d (.int (cRt g p))) none := c_creturns (n + 4) g p (by omega)
  have h := ne3 (bal g g) (cPk g p) (cRt g p)
  generalize bal (g : Int) (g : Int) = A at *
  generalize cPk g p = B at *
  generalize cRt g p = C at *
  generalize (g : Int) = G at *
  generalize (p : Int) = P at *
  simp [c1, c2, c3, h]
theorem q31 (W H Z : Int) (c1 : mo.cf (n + 6) 18 [.d (.int W), .d (.int H)] = .ok (.d (.int Z)) none) (c2 : mo.cf (n + 6) 28 [.d (.int W), .d (.int H)] = .ok (.d (.int Z)) none) : exS (OL n) z31 [s, st, t, x3, x4, x5, x6, x7, x8, x9, x10, x11, x12, x13, x14, x15, x16, x17, x18, x19, x20, oI W, oI H, x23, none, none] = .ok .nx [s, st, t, x3, x4, x5, x6, x7, x8, x9, x10, x11, x12, x13, x14, x15, x16, x17, x18, x19, x20, oI W, oI H, x23, none, none] := by
  simp [c1, c2]
theorem c18n (w h : Nat) (hw : w < 60) (hh : h < 20) : mo.cf (n + 6) 18 [.d (.int w), .d (.int h)] = .ok (.d (.int (nar w h))) none := by
  have c1 : mo.cf (n + 6) 18 [.d (.int w), .d (.int h)] = .ok (.d (.int (cHt w h))) none := c_cheight (n + 4) w h (by omega) (by omega)
  rw [c1, high_eq w h hw hh]
theorem c28n (w h : Nat) (hw : w < 60) (hh : h < 20) : mo.cf (n + 6) 28 [.d (.int w), .d (.int h)] = .ok (.d (.int (nar w h))) none := c_narrow (n + 5) w h (by omega) (by omega)
theorem p31 (w h : Nat) (hw : w < 60) (hh : h < 20) : exS (OL n) z31 [s, st, t, x3, x4, x5, x6, x7, x8, x9, x10, x11, x12, x13, x14, x15, x16, x17, x18, x19, x20, oI w, oI h, x23, none, none] = .ok .nx [s, st, t, x3, x4, x5, x6, x7, x8, x9, x10, x11, x12, x13, x14, x15, x16, x17, x18, x19, x20, oI w, oI h, x23, none, none] :=
  q31 n w h (nar w h) (c18n n w h hw hh) (c28n n w h hw hh)
include hL in
theorem p32 (j w : Nat) (hj : j < 700000) (hw : w < 60) : ∃ (j1 : Nat) (sp : Int), j1 ≤ j + 2 ∧ 0 ≤ sp ∧ sp < ((ch (2 * w) w : Nat) : Int) ∧ exS (OL n) z32 [s, stt L j, t, x3, x4, x5, x6, x7, x8, x9, x10, x11, x12, x13, x14, x15, x16, x17, x18, x19, x20, oI w, x22, x23, none, none] = .ok .nx [s, stt L j1, t, x3, x4, x5, x6, x7, x8, x9, x10, x11, x12, x13, x14, x15, x16, x17, x18, x19, x20, oI w, x22, oI sp, none, none] := by
  obtain ⟨r1, j1, h1, g1, e1⟩ := c_nextJ mo 23 rfl (n + 5) L j 1009 hL (by omega) (by omega)
  obtain ⟨r2, j2, h2, g2, e2⟩ := c_nextJ mo 23 rfl (n + 5) L j1 1009 hL (by omega) (by omega)
  have cc := c_lchoose (n + 5) (2 * w) (w : Int) (by omega)
  rw [show ((2 * w : Nat) : Int) = 2 * (w : Int) by omega, chI_nat] at cc
  have m0 : mulOk 2 (w : Int) = true := Bd.mulOk (k := 20) (l := 20) (by unfold Bd; decide) (Bd.of (by omega) (by omega)) (by omega)
  have br : Bd 20 (r1 : Int) := Bd.of (by omega) (by omega)
  have b9 : Bd 20 (1009 : Int) := by unfold Bd; decide
  have m1 := br.mulOk b9 (by omega)
  have m2 := (br.mul b9).mulOk b9 (by omega)
  have cp := ch_pos (2 * w) w (by omega)
  have c0 : ¬ ((ch (2 * w) w : Nat) : Int) = 0 := by omega
  have fr := fmod_range (a := (r1 : Int) * 1009 * 1009 + r2) (b := ((ch (2 * w) w : Nat) : Int)) (by omega)
  refine ⟨j2, ((r1 : Int) * 1009 * 1009 + r2).fmod ((ch (2 * w) w : Nat) : Int), by omega, fr.1, fr.2, ?_⟩
  generalize ((ch (2 * w) w : Nat) : Int) = C at *
  generalize (w : Int) = W at *
  simp [e1, e2, cc, m0, m1, m2, c0]
/-- what is told of a place -/
def TP (w : Nat) (sp : Int) : PyData := if 0 ≤ sp ∧ sp < bal w w then td (sD (unp w sp)) else ms
theorem told10 (w : Nat) (sp : Int) (hw : w ≤ 1000) (e : DEnv) (i k : Nat) (h1 : e[i]? = some (oI w)) (h2 : e[k]? = some (oI sp)) : ev (OL n) (.told tnm (.call 10 (.cons (.var i) (.cons (.var k) .nil)))) e = .ok (.val (.d (TP w sp))) e := by
  have c1 := c_at (n + 2) w sp hw
  have dv : evDs (OL n) (.cons (.var i) (.cons (.var k) .nil)) (sealD e) = .ok [.int w, .int sp] (sealD e) := d_var (seal_d h1) (d_var (seal_d h2) d_nil)
  unfold TP
  by_cases h : 0 ≤ sp ∧ sp < bal w w
  · rw [if_pos h] at c1 ⊢
    exact t_val (xs := [.int w, .int sp]) (v := .d (sD (unp w sp))) dv c1
  · rw [if_neg h] at c1 ⊢
    exact t_exc (xs := [.int w, .int sp]) dv c1 tn2
theorem p33 (w : Nat) (sp : Int) (hw : w < 60) : exS (OL n) z33 [s, st, t, x3, x4, x5, x6, x7, x8, x9, x10, x11, x12, x13, x14, x15, x16, x17, x18, x19, x20, oI w, x22, oI sp, none, none] = .ok .nx [s, st, t, x3, x4, x5, x6, some (.d (TP w sp)), x8, x9, x10, x11, x12, x13, x14, x15, x16, x17, x18, x19, x20, oI w, x22, oI sp, none, none] :=
  q_set (told10 n w sp (by omega) _ 21 23 rfl rfl) (by simp)
theorem ne_ms : cm2 .ne ms ms = some false := by decide +kernel
theorem spot_mul (w : Nat) (sp : Int) (hw : w < 60) (h0 : 0 ≤ sp) (hs : sp < ((ch (2 * w) w : Nat) : Int)) : mulOk sp ((w : Int) + 1) = true := by
  have bs : Bd 200 sp := by
    have h2 := ch_le (2 * w) w
    have h3 : 2 ^ (2 * w) ≤ 2 ^ 118 := Nat.pow_le_pow_right (by omega) (by omega)
    have h5 : (2 : Nat) ^ 118 < 2 ^ 200 := Nat.pow_lt_pow_right (by omega) (by omega)
    have h6 : ((ch (2 * w) w : Nat) : Int) < ((2 ^ 200 : Nat) : Int) := Int.ofNat_lt.mpr (Nat.lt_of_le_of_lt (Nat.le_trans h2 h3) h5)
    have h7 : (0 : Int) < ((2 ^ 200 : Nat) : Int) := Int.ofNat_lt.mpr (Nat.two_pow_pos _)
    generalize ((2 ^ 200 : Nat) : Int) = P at *
    show sp.natAbs < 2 ^ 200
    omega
  have b2 : Bd 20 ((w : Int) + 1) := Bd.of (by omega) (by omega)
  exact bs.mulOk b2 (by omega)
theorem q34a (W S C : Int) (T : Str) (cc : mo.cf (n + 6) 27 [.d (.int (2 * W)), .d (.int W)] = .ok (.d (.int C)) none) (m0 : mulOk 2 W = true) (m1 : mulOk S (W + 1) = true) (hc : S * (W + 1) < C) (c25 : mo.cf (n + 6) 25 [.d (.str T)] = .ok (.d (.bool true)) none) (c9 : mo.cf (n + 6) 9 [.d (.str T)] = .ok (.d (.int S)) none) (ol : bltR .len [.str T] = some (.d (.int (2 * W)))) : exS (OL n) z34 [s, st, t, x3, x4, x5, x6, some (.d (.tuple [.str "told", .str T])), x8, x9, x10, x11, x12, x13, x14, x15, x16, x17, x18, x19, x20, oI W, x22, oI S, none, none] = .ok .nx [s, st, t, x3, x4, x5, x6, some (.d (.tuple [.str "told", .str T])), x8, x9, x10, x11, x12, x13, x14, x15, x16, x17, x18, x19, x20, oI W, x22, oI S, none, none] := by
  simp [cc, m0, m1, hc, c25, c9, ol]
theorem q34b (W S C : Int) (cc : mo.cf (n + 6) 27 [.d (.int (2 * W)), .d (.int W)] = .ok (.d (.int C)) none) (m0 : mulOk 2 W = true) (m1 : mulOk S (W + 1) = true) (hc : ¬ S * (W + 1) < C) : exS (OL n) z34 [s, st, t, x3, x4, x5, x6, some (.d ms), x8, x9, x10, x11, x12, x13, x14, x15, x16, x17, x18, x19, x20, oI W, x22, oI S, none, none] = .ok .nx [s, st, t, x3, x4, x5, x6, some (.d ms), x8, x9, x10, x11, x12, x13, x14, x15, x16, x17, x18, x19, x20, oI W, x22, oI S, none, none] := by
  have hm := ne_ms
  simp [cc, m0, m1, hc, hm]
theorem p34 (w : Nat) (sp : Int) (hw : w < 60) (h0 : 0 ≤ sp) (hs : sp < ((ch (2 * w) w : Nat) : Int)) : exS (OL n) z34 [s, st, t, x3, x4, x5, x6, some (.d (TP w sp)), x8, x9, x10, x11, x12, x13, x14, x15, x16, x17, x18, x19, x20, oI w, x22, oI sp, none, none] = .ok .nx [s, st, t, x3, x4, x5, x6, some (.d (TP w sp)), x8, x9, x10, x11, x12, x13, x14, x15, x16, x17, x18, x19, x20, oI w, x22, oI sp, none, none] := by
  have cc := c_lchoose (n + 5) (2 * w) (w : Int) (by omega)
  rw [show ((2 * w : Nat) : Int) = 2 * (w : Int) by omega, chI_nat] at cc
  have m0 : mulOk 2 (w : Int) = true := Bd.mulOk (k := 20) (l := 20) (by unfold Bd; decide) (Bd.of (by omega) (by omega)) (by omega)
  have cl := cat_lt w sp
  by_cases h : sp < bal w w
  · have hc := cl.mpr h
    have et : TP w sp = td (sD (unp w sp)) := by unfold TP; rw [if_pos ⟨h0, h⟩]
    obtain ⟨u1, u2, u3⟩ := un_ok (2 * w) w w sp (by omega) (by omega) (by omega) h0 h
    rw [Int.sub_self] at u2
    have ul : (unp w sp).length = 2 * w := u3
    have ug : gd 0 (unp w sp) = true := u2
    have up : plc (unp w sp) = sp := by
      unfold plc
      rw [ul, show 2 * w / 2 = w by omega]
      exact u1
    have c25 : mo.cf (n + 6) 25 [.d (.str (tx (unp w sp)))] = .ok (.d (.bool (gd 0 (unp w sp)))) none := c_lgood (n + 4) (unp w sp) (by omega)
    have c9 : mo.cf (n + 6) 9 [.d (.str (tx (unp w sp)))] = .ok (.d (.int (plc (unp w sp)))) none := c_place (n + 2) (unp w sp) (by omega) ug
    rw [ug] at c25
    rw [up] at c9
    have ol := o_lens (s := tx (unp w sp)) (by rw [t_len]; omega)
    rw [t_len, ul, show ((2 * w : Nat) : Int) = 2 * (w : Int) by omega] at ol
    rw [et]
    have m1 := spot_mul w sp hw h0 hs
    exact q34a n _ _ _ _ cc m0 m1 hc c25 c9 ol
  · have hc : ¬ sp * ((w : Int) + 1) < ((ch (2 * w) w : Nat) : Int) := fun z => h (cl.mp z)
    have et : TP w sp = ms := by unfold TP; rw [if_neg (fun z => h z.2)]
    rw [et]
    exact q34b n _ _ _ cc m0 (spot_mul w sp hw h0 hs) hc
theorem p35 : exS (OL n) z35 [s, st, t, x3, x4, x5, x6, x7, x8, x9, x10, x11, x12, x13, x14, x15, x16, x17, x18, x19, x20, x21, x22, x23, none, none] = .ok .nx [s, st, t, x3, x4, x5, x6, x7, x8, x9, x10, x11, x12, x13, x14, x15, x16, x17, x18, x19, x20, x21, x22, x23, none, none] := by
  have c := c_refuses n
  have e1 : ev (OL n) (.call 31 .nil) [s, st, t, x3, x4, x5, x6, x7, x8, x9, x10, x11, x12, x13, x14, x15, x16, x17, x18, x19, x20, x21, x22, x23, none, none] = .ok (.val (.d (.bool true))) [s, st, t, x3, x4, x5, x6, x7, x8, x9, x10, x11, x12, x13, x14, x15, x16, x17, x18, x19, x20, x21, x22, x23, none, none] := c_val (xs := []) d_nil c
  simp [e1, -x_call]
end
end K04
/-! k04, plain: the law. -/
namespace K04
open PySem Wd
theorem w_sh {w : List Bool} (h : w.length ≤ 12) : Sh 0 200 (sD w) := (Sh.str (t_chs w)).mono (by omega) (by rw [t_len]; omega)
theorem int_sh {z : Int} (h1 : -100000 ≤ z) (h2 : z ≤ 100000) : Sh 0 2000 (.int z) := by
  have h : Bd 20 z := Bd.of (by omega) (by omega)
  exact (Sh.int (h.mono (by omega))).mono (by omega) (by omega)
theorem TL_sh {m most f : Nat} (hm : m < 7) (hf : f < 9) (hh : most < 8) : Sh 3 12000000 (.list (TL m ((f : Int) - 1) most)) := by
  obtain ⟨g1, g2, g3, g4⟩ := f1 hm
  have hs := e_short hm
  have l1 := List.length_filter_le (fun w => decide ((lpk w : Int) = (f : Int) - 1)) (mts m)
  have l2 := List.length_filter_le (fun w => decide (((lret w).length : Int) = (f : Int) - 1)) (mts m)
  have l3 := List.length_filter_le (fun w => decide (mxl w ≤ (most : Int))) (mts m)
  have q1 := (g3 f hf).1
  have q2 := (g3 f hf).2
  have q3 := g4 most hh
  have s0 : Sh 1 1100000 (.list (eD m)) := (Sh.list (d := 0) (n := 200) fun x hx => by
    obtain ⟨w, hw, rfl⟩ := sD_get hx
    exact w_sh (by rw [mts_len hw]; omega)).mono (by omega) (by rw [List.length_map]; omega)
  refine (Sh.list (d := 2) (n := 2200100) fun y hy => ?_).mono (by omega) (by simp [TL])
  unfold TL at hy
  simp only [List.mem_cons, List.not_mem_nil, or_false] at hy
  rcases hy with rfl | rfl | rfl | rfl | rfl
  · exact (td_sh s0 (by omega)).mono (by omega) (by omega)
  · exact (td_sh (int_sh (by omega) (by omega)) (by omega)).mono (by omega) (by omega)
  · exact (td_sh (int_sh (by omega) (by omega)) (by omega)).mono (by omega) (by omega)
  · exact (td_sh (int_sh (by omega) (by omega)) (by omega)).mono (by omega) (by omega)
  · exact (td_sh (int_sh (by omega) (by omega)) (by omega)).mono (by omega) (by omega)
theorem unp_at {m i : Nat} {w : List Bool} (hm : m < 7) (h : (mts m)[i]? = some w) : unp m i = w := (f2 hm h).2.2.2.2.2.1
theorem TP_sh {m : Nat} (hm : m < 7) (p : Int) : Sh 2 1000 (TP m p) := by
  unfold TP
  split
  · rename_i h
    have hl := (f1 hm).2.1
    obtain ⟨i, rfl⟩ : ∃ i : Nat, p = i := ⟨p.toNat, by omega⟩
    obtain ⟨w, hw⟩ : ∃ w, (mts m)[i]? = some w := ⟨_, List.getElem?_eq_getElem (show i < (mts m).length by omega)⟩
    rw [unp_at hm hw]
    exact (td_sh (w_sh (by rw [mts_len (List.mem_of_getElem? hw)]; omega)) (by omega)).mono (by omega) (by omega)
  · exact ms_sh.mono (by omega) (by omega)
/-- the place's text among all -/
theorem TP_at {m : Nat} (hm : m < 7) (p : Int) (h0 : 0 ≤ p) (h1 : p < (eD m).length) : ∃ Y, L2.atI (eD m) p = some Y ∧ TP m p = td Y := by
  have hl := (f1 hm).2.1
  rw [List.length_map] at h1
  obtain ⟨i, rfl⟩ : ∃ i : Nat, p = i := ⟨p.toNat, by omega⟩
  obtain ⟨w, hw⟩ : ∃ w, (mts m)[i]? = some w := ⟨_, List.getElem?_eq_getElem (show i < (mts m).length by omega)⟩
  refine ⟨sD w, sD_at hw, ?_⟩
  unfold TP
  rw [if_pos ⟨h0, by omega⟩, unp_at hm hw]
theorem TP_no {m : Nat} (hm : m < 7) (p : Int) (h : ¬ (0 ≤ p ∧ p < (eD m).length)) : TP m p = ms := by
  have hl := (f1 hm).2.1
  rw [List.length_map] at h
  unfold TP
  rw [if_neg (by omega)]
theorem eqv_tx (v w : List Bool) : PyData.eqv (sD v) (sD w) = (v == w) := by
  have e : PyData.eqv (sD v) (sD w) = (tx v == tx w) := by simp [PyData.eqv]
  rw [e, Bool.eq_iff_iff, beq_iff_eq, beq_iff_eq]
  exact ⟨t_inj, fun h => by rw [h]⟩
theorem shaped_tx (w : List Bool) : SeqAt.shaped (sD w) = true := by
  have o : PyData.strOk (tx w) = true := by
    unfold PyData.strOk
    rw [← Array.all_toList, List.all_eq_true]
    intro c hc
    exact decide_eq_true (sig_tx w c hc)
  simp [SeqAt.shaped, PyData.canLay0, PyData.depth, o]
theorem shaped_eD (L : List (List Bool)) : SeqAt.shaped (.list (L.map sD)) = true := by
  have h : ∀ L : List (List Bool), PyData.canLayAll0 (L.map sD) = true ∧ PyData.depthAll (L.map sD) = 0 := by
    intro L
    induction L with
    | nil => simp [PyData.canLayAll0, PyData.depthAll]
    | cons a A ih =>
      have o : PyData.strOk (tx a) = true := by
        unfold PyData.strOk
        rw [← Array.all_toList, List.all_eq_true]
        intro c hc
        exact decide_eq_true (sig_tx a c hc)
      simp [PyData.canLayAll0, PyData.depthAll, PyData.canLay0, PyData.depth, ih.1, ih.2, o]
  simp [SeqAt.shaped, PyData.canLay0, PyData.depth, (h L).1, (h L).2]
theorem idx_eD {m i : Nat} {w : List Bool} (hm : m < 7) (h : (mts m)[i]? = some w) : mthL .index (.list (eD m)) (sD w) = some (.d (.int i)) := by
  have fi := (f2 hm h).2.2.2.2.2.2.1
  have e : (eD m).findIdx? (fun z => PyData.eqv z (sD w)) = (mts m).findIdx? fun z => z == w := by
    have : ∀ L : List (List Bool), (L.map sD).findIdx? (fun z => PyData.eqv z (sD w)) = L.findIdx? fun z => z == w := by
      intro L
      induction L with
      | nil => rfl
      | cons a A ih => rw [List.map_cons, List.findIdx?_cons, List.findIdx?_cons, ih, eqv_tx]
    exact this _
  have tt : (true && true) = true := rfl
  show (if (SeqAt.shaped (.list (eD m)) && SeqAt.shaped (sD w)) = true then ((eD m).findIdx? fun z => PyData.eqv z (sD w)).map fun j => DV.d (.int (j : Nat)) else none) = _
  rw [shaped_eD, shaped_tx, if_pos tt, e, fi]
  rfl
/-- what is told of the first return -/
def DF (w : List Bool) : PyData := if w = [] then ms else match lret w with
  | e0 :: _ => td (.tuple [.str (tx (cutB w (some 1) (some ((e0 : Int) - 1)))), .str (tx (cutB w (some (e0 : Int)) none))])
  | [] => .none
theorem cutB_len (w : List Bool) (lo hi : Option Int) : (cutB w lo hi).length ≤ w.length := by
  unfold cutB
  rw [List.length_take, List.length_drop]
  omega
theorem DF_sh {m i : Nat} {w : List Bool} (hm : m < 7) (h : (mts m)[i]? = some w) : Sh 2 100000 (DF w) := by
  have hl := mts_len (List.mem_of_getElem? h)
  have f8 := (f2 hm h).2.2.2.2.2.2.2
  unfold DF
  rcases f8 with rfl | ⟨e0, r, hr, _⟩
  · rw [if_pos rfl]
    exact ms_sh.mono (by omega) (by omega)
  · by_cases h0 : w = []
    · rw [if_pos h0]
      exact ms_sh.mono (by omega) (by omega)
    · rw [if_neg h0, hr]
      refine (td_sh (d := 1) (z := 5000) (x := .tuple [.str (tx (cutB w (some 1) (some ((e0 : Int) - 1)))), .str (tx (cutB w (some (e0 : Int)) none))]) ?_ (by omega)).mono (by omega) (by omega)
      refine (Sh.tuple (d := 0) (n := 200) (xs := [.str (tx (cutB w (some 1) (some ((e0 : Int) - 1)))), .str (tx (cutB w (some (e0 : Int)) none))]) fun y hy => ?_).mono (by omega) (by simp)
      rcases List.mem_cons.mp hy with rfl | hy
      · exact w_sh (Nat.le_trans (cutB_len w _ _) (by omega))
      · rw [List.mem_singleton] at hy
        rw [hy]
        exact w_sh (Nat.le_trans (cutB_len w _ _) (by omega))
theorem T6_sh {m i : Nat} {w : List Bool} (hm : m < 7) (h : (mts m)[i]? = some w) (k : Int) (hk : -100000 ≤ k ∧ k ≤ 100000) (N : PyData) (hN : Sh 2 1000 N) : Sh 3 1000000 (.list (T6 w (.int k) N)) := by
  have hl := mts_len (List.mem_of_getElem? h)
  obtain ⟨g1, g2, g3, g4, g5, _⟩ := f2 hm h
  have b : ∀ y ∈ lv 0 w, -12 ≤ y ∧ y ≤ 12 := fun y hy => by
    obtain ⟨j, hj⟩ := List.getElem?_of_mem hy
    have hlt := (List.getElem?_eq_some_iff.mp hj).1
    rw [lv_len] at hlt
    rw [lv_get w 0 j (by omega), hg_count, List.length_take] at hj
    have := List.count_le_length (a := true) (l := w.take j)
    rw [List.length_take] at this
    injection hj with hj
    omega
  have s1 : -12 * ((lv 0 w).length : Int) ≤ (lv 0 w).sum ∧ (lv 0 w).sum ≤ 12 * ((lv 0 w).length : Int) := by
    have go : ∀ A : List Int, (∀ y ∈ A, -12 ≤ y ∧ y ≤ 12) → -12 * (A.length : Int) ≤ A.sum ∧ A.sum ≤ 12 * (A.length : Int) := by
      intro A
      induction A with
      | nil => intro _; simp
      | cons a A ih =>
        intro hA
        have h1 := ih fun y hy => hA y (List.mem_cons_of_mem _ hy)
        have h2 := hA a List.mem_cons_self
        rw [List.sum_cons, List.length_cons, Int.natCast_add]
        omega
    exact go _ b
  rw [lv_len] at s1
  have m1 : -12 ≤ mxl w ∧ mxl w ≤ 12 := by
    obtain ⟨r, hr⟩ := lv_cons w 0
    have em : mxl w = maxI 0 r := by unfold mxl; rw [hr]; rfl
    rw [em]
    rcases maxI_mem r 0 with z | z
    · rw [z]
      omega
    · exact b _ (by rw [hr]; exact List.mem_cons_of_mem _ z)
  have p1 : 0 ≤ pk w ∧ pk w ≤ 100 := by
    rw [g4]
    have := List.length_filter_le (fun k : Nat => cutB w (some (k : Int)) (some ((k : Int) + 2)) == [true, false]) (List.range (w.length - 1))
    rw [List.length_range] at this
    unfold lpk
    omega
  have r1 : 0 ≤ ret0 w ∧ ret0 w ≤ 100 := by
    unfold ret0
    have := List.count_le_length (a := (0 : Int)) (l := (lv 0 w).drop 1)
    rw [List.length_drop, lv_len] at this
    omega
  refine (Sh.list (d := 2) (n := 10000) fun y hy => ?_).mono (by omega) (by simp [T6])
  unfold T6 at hy
  simp only [List.mem_cons, List.not_mem_nil, or_false] at hy
  rcases hy with rfl | rfl | rfl | rfl | rfl | rfl
  · exact (td_sh (int_sh hk.1 hk.2) (by omega)).mono (by omega) (by omega)
  · exact hN.mono (by omega) (by omega)
  · exact (td_sh (int_sh (by omega) (by omega)) (by omega)).mono (by omega) (by omega)
  · exact (td_sh (int_sh (by omega) (by omega)) (by omega)).mono (by omega) (by omega)
  · exact (td_sh (int_sh (by omega) (by omega)) (by omega)).mono (by omega) (by omega)
  · exact (td_sh (int_sh (by omega) (by omega)) (by omega)).mono (by omega) (by omega)
/-- the law's names, some of them free -/
def IsV (s : Option DV) (L : List Int) (j : Nat) (e : DEnv) : Prop := ∃ (t x3 x4 x5 x6 x7 x8 x9 x11 x12 x13 x14 x15 x16 x17 x18 x19 x20 x21 x22 x23 : Option DV) (p10 : Option PyData), e = [s, stt L j, t, x3, x4, x5, x6, x7, x8, x9, p10.map .d, x11, x12, x13, x14, x15, x16, x17, x18, x19, x20, x21, x22, x23, none, none]
theorem mts_pos {m : Nat} (hm : m < 7) : 0 < (mts m).length := by
  have h := (f1 hm).2.1
  rw [bal_cat] at h
  have c := ch_pos (2 * m) m (by omega)
  have e := cat_mul m
  have : 0 < ch (2 * m) m / (m + 1) := by
    rcases Nat.eq_zero_or_pos (ch (2 * m) m / (m + 1)) with z | z
    · rw [z] at e
      simp at e
      omega
    · exact z
  omega
section
variable (n : Nat)
theorem told11 {m i : Nat} {w : List Bool} (hm : m < 7) (hw : (mts m)[i]? = some w) (e : DEnv) (h : e[10]? = some (oS (tx w))) : ev (OL n) (.told tnm (.call 11 (.cons (.var 10) .nil))) e = .ok (.val (.d (TP m ((i : Int) + 1)))) e := by
  obtain ⟨a1, a2, a3, _⟩ := f2 hm hw
  have c := c_next (n + 1) w (by omega) a1
  rw [a2, a3, show 2 * m / 2 = m by omega] at c
  have dv : evDs (OL n) (.cons (.var 10) .nil) (sealD e) = .ok [.str (tx w)] (sealD e) := d_var (seal_d h) d_nil
  unfold TP
  by_cases h1 : (i : Int) + 1 = bal m m
  · rw [if_pos h1] at c
    rw [if_neg (by omega)]
    exact t_exc (xs := [.str (tx w)]) dv c tn2
  · rw [if_neg h1] at c
    by_cases h2 : 0 ≤ (i : Int) + 1 ∧ (i : Int) + 1 < bal m m
    · rw [if_pos h2] at c ⊢
      exact t_val (xs := [.str (tx w)]) (v := .d (sD (unp m ((i : Int) + 1)))) dv c
    · rw [if_neg h2] at c ⊢
      exact t_exc (xs := [.str (tx w)]) dv c tn2
theorem told19 {m i : Nat} {w : List Bool} (hm : m < 7) (hw : (mts m)[i]? = some w) (e : DEnv) (h : e[10]? = some (oS (tx w))) : ev (OL n) (.told tnm (.call 19 (.cons (.var 10) .nil))) e = .ok (.val (.d (DF w))) e := by
  obtain ⟨a1, _, a3, _, _, _, _, a8⟩ := f2 hm hw
  have dv : evDs (OL n) (.cons (.var 10) .nil) (sealD e) = .ok [.str (tx w)] (sealD e) := d_var (seal_d h) d_nil
  by_cases h0 : w = []
  · have hD : DF w = ms := by unfold DF; rw [if_pos h0]
    rw [hD]
    exact t_exc (xs := [.str (tx w)]) dv (c_first0 (n + 2) w (by omega) a1 h0) tn2
  · rcases a8 with z | ⟨e0, rr, q1, q2, q3, q4⟩
    · exact absurd z h0
    · have hD : DF w = td (.tuple [.str (tx (cutB w (some 1) (some ((e0 : Int) - 1)))), .str (tx (cutB w (some (e0 : Int)) none))]) := by unfold DF; rw [if_neg h0, q1]
      have c := c_first (n + 2) w (by omega) a1 (e0 - 1) h0 q2
      rw [show ((e0 - 1 : Nat) : Int) + 1 = (e0 : Int) by omega] at c
      rw [hD]
      exact t_val (xs := [.str (tx w)]) (v := .d (.tuple [.str (tx (cutB w (some 1) (some ((e0 : Int) - 1)))), .str (tx (cutB w (some (e0 : Int)) none))])) dv c
variable {s st t x3 x4 x5 x6 x7 x8 x9 x11 x12 x13 x14 x15 x16 x17 x18 x19 x20 x21 x22 x23 : Option DV}
theorem p15i (w : List Bool) (hw : w.length ≤ 100) (hg : gd 0 w = true) (N : PyData) (hN : ev (OL n) (.told tnm (.call 11 (.cons (.var 10) .nil))) [s, st, t, x3, x4, x5, x6, x7, x8, x9, oS (tx w), x11, x12, x13, x14, x15, x16, x17, x18, x19, x20, x21, x22, x23, none, none] = .ok (.val (.d N)) [s, st, t, x3, x4, x5, x6, x7, x8, x9, oS (tx w), x11, x12, x13, x14, x15, x16, x17, x18, x19, x20, x21, x22, x23, none, none]) (i : Int) (hi : plc w = i) : exS (OL n) z15 [s, st, t, x3, x4, x5, x6, x7, x8, x9, oS (tx w), x11, x12, x13, x14, x15, x16, x17, x18, x19, x20, x21, x22, x23, none, none] = .ok .nx [s, st, t, x3, x4, x5, x6, some (.own (T6 w (.int i) N)), x8, x9, oS (tx w), x11, x12, x13, x14, x15, x16, x17, x18, x19, x20, x21, x22, x23, none, none] := by
  subst hi
  exact p15 n w hw hg N hN
/-- a turn of the law -/
theorem turn (s : Option DV) (L : List Int) (hL : Ok L) (j : Nat) (hj : j < 500000) (e : DEnv) (hv : IsV s L j e) : ∃ (j1 : Nat) (e1 : DEnv), j1 ≤ j + 100 ∧ exSs (OL n) zB e = .ok .nx e1 ∧ IsV s L j1 e1 := by
  obtain ⟨t, x3, x4, x5, x6, x7, x8, x9, x11, x12, x13, x14, x15, x16, x17, x18, x19, x20, x21, x22, x23, p10, rfl⟩ := hv
  obtain ⟨m, j1, hm, gj1, c0⟩ := c_nextJ mo 23 rfl (n + 5) L j 7 hL (by omega) (by omega)
  have hm7 : m < 7 := by omega
  have e0 : exS (OL n) z0 [s, stt L j, t, x3, x4, x5, x6, x7, x8, x9, p10.map .d, x11, x12, x13, x14, x15, x16, x17, x18, x19, x20, x21, x22, x23, none, none] = .ok .nx [s, stt L j1, t, oI m, x4, x5, x6, x7, x8, x9, p10.map .d, x11, x12, x13, x14, x15, x16, x17, x18, x19, x20, x21, x22, x23, none, none] := s_next (f := 23) (v := .d (.int m)) (S2 := St L j1) (x_int _ _ 7) rfl c0 (by simp)
  have e1 : exS (OL n) z1 [s, stt L j1, t, oI m, x4, x5, x6, x7, x8, x9, p10.map .d, x11, x12, x13, x14, x15, x16, x17, x18, x19, x20, x21, x22, x23, none, none] = .ok .nx [s, stt L j1, t, oI m, oL (eD m), x5, x6, x7, x8, x9, p10.map .d, x11, x12, x13, x14, x15, x16, x17, x18, x19, x20, x21, x22, x23, none, none] := p1 n m hm7
  obtain ⟨f, j2, hf, gj2, c2⟩ := c_nextJ mo 23 rfl (n + 5) L j1 9 hL (by omega) (by omega)
  have e2 : exS (OL n) z2 [s, stt L j1, t, oI m, oL (eD m), x5, x6, x7, x8, x9, p10.map .d, x11, x12, x13, x14, x15, x16, x17, x18, x19, x20, x21, x22, x23, none, none] = .ok .nx [s, stt L j2, t, oI m, oL (eD m), oI ((f : Int) - 1), x6, x7, x8, x9, p10.map .d, x11, x12, x13, x14, x15, x16, x17, x18, x19, x20, x21, x22, x23, none, none] := q_set (q_sub (v_next (f := 23) (v := .d (.int f)) (S2 := St L j2) (x_int _ _ 9) rfl c2)) (by simp)
  obtain ⟨most, j3, hh, gj3, c3⟩ := c_nextJ mo 23 rfl (n + 5) L j2 8 hL (by omega) (by omega)
  have e3 : exS (OL n) z3 [s, stt L j2, t, oI m, oL (eD m), oI ((f : Int) - 1), x6, x7, x8, x9, p10.map .d, x11, x12, x13, x14, x15, x16, x17, x18, x19, x20, x21, x22, x23, none, none] = .ok .nx [s, stt L j3, t, oI m, oL (eD m), oI ((f : Int) - 1), oI most, x7, x8, x9, p10.map .d, x11, x12, x13, x14, x15, x16, x17, x18, x19, x20, x21, x22, x23, none, none] := s_next (f := 23) (v := .d (.int most)) (S2 := St L j3) (x_int _ _ 8) rfl c3 (by simp)
  have e4 : exS (OL n) z4 [s, stt L j3, t, oI m, oL (eD m), oI ((f : Int) - 1), oI most, x7, x8, x9, p10.map .d, x11, x12, x13, x14, x15, x16, x17, x18, x19, x20, x21, x22, x23, none, none] = .ok .nx [s, stt L j3, t, oI m, oL (eD m), oI ((f : Int) - 1), oI most, some (.own (TL m ((f : Int) - 1) most)), x8, x9, p10.map .d, x11, x12, x13, x14, x15, x16, x17, x18, x19, x20, x21, x22, x23, none, none] := p4 n m most ((f : Int) - 1) hm7 (by omega)
  have e5 : exS (OL n) z5 [s, stt L j3, t, oI m, oL (eD m), oI ((f : Int) - 1), oI most, some (.own (TL m ((f : Int) - 1) most)), x8, x9, p10.map .d, x11, x12, x13, x14, x15, x16, x17, x18, x19, x20, x21, x22, x23, none, none] = .ok .nx [s, stt L j3, t, oI m, oL (eD m), oI ((f : Int) - 1), oI most, some (.own (TL m ((f : Int) - 1) most)), some (.own (TL m ((f : Int) - 1) most)), x9, p10.map .d, x11, x12, x13, x14, x15, x16, x17, x18, x19, x20, x21, x22, x23, none, none] := p5 n m most f (by omega) hm7 (by omega)
  have e6 : exS (OL n) z6 [s, stt L j3, t, oI m, oL (eD m), oI ((f : Int) - 1), oI most, some (.own (TL m ((f : Int) - 1) most)), some (.own (TL m ((f : Int) - 1) most)), x9, p10.map .d, x11, x12, x13, x14, x15, x16, x17, x18, x19, x20, x21, x22, x23, none, none] = .ok .nx [s, stt L j3, t, oI m, oL (eD m), oI ((f : Int) - 1), oI most, oL (TL m ((f : Int) - 1) most), oL (TL m ((f : Int) - 1) most), x9, p10.map .d, x11, x12, x13, x14, x15, x16, x17, x18, x19, x20, x21, x22, x23, none, none] := p6 n _ 3 12000000 (TL_sh hm7 (by omega) (by omega)) (by omega) (by omega)
  obtain ⟨r, j4, hr, gj4, c7⟩ := c_nextJ mo 23 rfl (n + 5) L j3 (((eD m).length : Int) + 2) hL (by omega) (by omega)
  have e7 : exS (OL n) z7 [s, stt L j3, t, oI m, oL (eD m), oI ((f : Int) - 1), oI most, oL (TL m ((f : Int) - 1) most), oL (TL m ((f : Int) - 1) most), x9, p10.map .d, x11, x12, x13, x14, x15, x16, x17, x18, x19, x20, x21, x22, x23, none, none] = .ok .nx [s, stt L j4, t, oI m, oL (eD m), oI ((f : Int) - 1), oI most, oL (TL m ((f : Int) - 1) most), oL (TL m ((f : Int) - 1) most), oI ((r : Int) - 1), p10.map .d, x11, x12, x13, x14, x15, x16, x17, x18, x19, x20, x21, x22, x23, none, none] := p7 n m (St L j3) (St L j4) r c7
  have e8 : exS (OL n) z8 [s, stt L j4, t, oI m, oL (eD m), oI ((f : Int) - 1), oI most, oL (TL m ((f : Int) - 1) most), oL (TL m ((f : Int) - 1) most), oI ((r : Int) - 1), p10.map .d, x11, x12, x13, x14, x15, x16, x17, x18, x19, x20, x21, x22, x23, none, none] = .ok .nx [s, stt L j4, t, oI m, oL (eD m), oI ((f : Int) - 1), oI most, oL (TL m ((f : Int) - 1) most), some (.d ms), oI ((r : Int) - 1), p10.map .d, x11, x12, x13, x14, x15, x16, x17, x18, x19, x20, x21, x22, x23, none, none] := p8 n
  have e9 : exS (OL n) z9 [s, stt L j4, t, oI m, oL (eD m), oI ((f : Int) - 1), oI most, oL (TL m ((f : Int) - 1) most), some (.d ms), oI ((r : Int) - 1), p10.map .d, x11, x12, x13, x14, x15, x16, x17, x18, x19, x20, x21, x22, x23, none, none] = .ok .nx [s, stt L j4, t, oI m, oL (eD m), oI ((f : Int) - 1), oI most, oL (TL m ((f : Int) - 1) most), some (.d (TP m ((r : Int) - 1))), oI ((r : Int) - 1), p10.map .d, x11, x12, x13, x14, x15, x16, x17, x18, x19, x20, x21, x22, x23, none, none] := by
    by_cases h9 : 0 ≤ (r : Int) - 1 ∧ (r : Int) - 1 < ((eD m).length : Int)
    · obtain ⟨Y, hY, hT⟩ := TP_at hm7 _ h9.1 h9.2
      rw [hT]
      exact p9a n (eD m) ((r : Int) - 1) Y h9.1 h9.2 hY
    · rw [TP_no hm7 _ h9]
      exact p9b n (eD m) ((r : Int) - 1) h9
  have e10 : exS (OL n) z10 [s, stt L j4, t, oI m, oL (eD m), oI ((f : Int) - 1), oI most, oL (TL m ((f : Int) - 1) most), some (.d (TP m ((r : Int) - 1))), oI ((r : Int) - 1), p10.map .d, x11, x12, x13, x14, x15, x16, x17, x18, x19, x20, x21, x22, x23, none, none] = .ok .nx [s, stt L j4, t, oI m, oL (eD m), oI ((f : Int) - 1), oI most, oL (TL m ((f : Int) - 1) most), some (.d (TP m ((r : Int) - 1))), oI ((r : Int) - 1), p10.map .d, x11, x12, x13, x14, x15, x16, x17, x18, x19, x20, x21, x22, x23, none, none] := p10a n m ((r : Int) - 1) (TP m ((r : Int) - 1)) 1000 (TP_sh hm7 _) (by omega) (told10 n m ((r : Int) - 1) (by omega) _ 3 9 rfl rfl)
  have hpos : 0 < (mts m).length := mts_pos hm7
  obtain ⟨i, j5, hi, gj5, c11⟩ := c_nextJ mo 23 rfl (n + 5) L j4 ((eD m).length : Int) hL (by omega) (by rw [List.length_map]; omega)
  have hi2 : i < (mts m).length := by rw [List.length_map] at hi; omega
  obtain ⟨w, hw⟩ : ∃ w, (mts m)[i]? = some w := ⟨_, List.getElem?_eq_getElem hi2⟩
  obtain ⟨a1, a2, a3, a4, a5, a6, a7, a8⟩ := f2 hm7 hw
  have wl : w.length ≤ 100 := by omega
  have e11 : exS (OL n) z11 [s, stt L j4, t, oI m, oL (eD m), oI ((f : Int) - 1), oI most, oL (TL m ((f : Int) - 1) most), some (.d (TP m ((r : Int) - 1))), oI ((r : Int) - 1), p10.map .d, x11, x12, x13, x14, x15, x16, x17, x18, x19, x20, x21, x22, x23, none, none] = .ok .nx [s, stt L j5, t, oI m, oL (eD m), oI ((f : Int) - 1), oI most, oL (TL m ((f : Int) - 1) most), some (.d (TP m ((r : Int) - 1))), oI ((r : Int) - 1), oS (tx w), x11, x12, x13, x14, x15, x16, x17, x18, x19, x20, x21, x22, x23, none, none] := p11 n (eD m) (St L j4) (St L j5) i (sD w) c11 (sD_at hw)
  have e12 : exS (OL n) z12 [s, stt L j5, t, oI m, oL (eD m), oI ((f : Int) - 1), oI most, oL (TL m ((f : Int) - 1) most), some (.d (TP m ((r : Int) - 1))), oI ((r : Int) - 1), oS (tx w), x11, x12, x13, x14, x15, x16, x17, x18, x19, x20, x21, x22, x23, none, none] = .ok .nx [s, stt L j5, t, oI m, oL (eD m), oI ((f : Int) - 1), oI most, oL (TL m ((f : Int) - 1) most), some (.d (TP m ((r : Int) - 1))), oI ((r : Int) - 1), oS (tx w), some (.own ((lv 0 w).map .int)), x12, x13, x14, x15, x16, x17, x18, x19, x20, x21, x22, x23, none, none] := p12 n w wl
  have e13 : exS (OL n) z13 [s, stt L j5, t, oI m, oL (eD m), oI ((f : Int) - 1), oI most, oL (TL m ((f : Int) - 1) most), some (.d (TP m ((r : Int) - 1))), oI ((r : Int) - 1), oS (tx w), some (.own ((lv 0 w).map .int)), x12, x13, x14, x15, x16, x17, x18, x19, x20, x21, x22, x23, none, none] = .ok .nx [s, stt L j5, t, oI m, oL (eD m), oI ((f : Int) - 1), oI most, oL (TL m ((f : Int) - 1) most), some (.d (TP m ((r : Int) - 1))), oI ((r : Int) - 1), oS (tx w), some (.own ((lv 0 w).map .int)), oI i, x13, x14, x15, x16, x17, x18, x19, x20, x21, x22, x23, none, none] := p13 n (eD m) (sD w) i (idx_eD hm7 hw)
  have e14 : exS (OL n) z14 [s, stt L j5, t, oI m, oL (eD m), oI ((f : Int) - 1), oI most, oL (TL m ((f : Int) - 1) most), some (.d (TP m ((r : Int) - 1))), oI ((r : Int) - 1), oS (tx w), some (.own ((lv 0 w).map .int)), oI i, x13, x14, x15, x16, x17, x18, x19, x20, x21, x22, x23, none, none] = .ok .nx [s, stt L j5, t, oI m, oL (eD m), oI ((f : Int) - 1), oI most, oL (TL m ((f : Int) - 1) most), some (.d (TP m ((r : Int) - 1))), oI ((r : Int) - 1), oS (tx w), some (.own ((lv 0 w).map .int)), oI i, oS (tx (flip w)), x14, x15, x16, x17, x18, x19, x20, x21, x22, x23, none, none] := p14 n w wl
  have nx : ∀ e : DEnv, e[10]? = some (oS (tx w)) → ev (OL n) (.told tnm (.call 11 (.cons (.var 10) .nil))) e = .ok (.val (.d (TP m ((i : Int) + 1)))) e := fun e he => told11 n hm7 hw e he
  have e15 : exS (OL n) z15 [s, stt L j5, t, oI m, oL (eD m), oI ((f : Int) - 1), oI most, oL (TL m ((f : Int) - 1) most), some (.d (TP m ((r : Int) - 1))), oI ((r : Int) - 1), oS (tx w), some (.own ((lv 0 w).map .int)), oI i, oS (tx (flip w)), x14, x15, x16, x17, x18, x19, x20, x21, x22, x23, none, none] = .ok .nx [s, stt L j5, t, oI m, oL (eD m), oI ((f : Int) - 1), oI most, some (.own (T6 w (.int i) (TP m ((i : Int) + 1)))), some (.d (TP m ((r : Int) - 1))), oI ((r : Int) - 1), oS (tx w), some (.own ((lv 0 w).map .int)), oI i, oS (tx (flip w)), x14, x15, x16, x17, x18, x19, x20, x21, x22, x23, none, none] := p15i n w wl a1 (TP m ((i : Int) + 1)) (nx _ rfl) i a2
  have e16 : exS (OL n) z16 [s, stt L j5, t, oI m, oL (eD m), oI ((f : Int) - 1), oI most, some (.own (T6 w (.int i) (TP m ((i : Int) + 1)))), some (.d (TP m ((r : Int) - 1))), oI ((r : Int) - 1), oS (tx w), some (.own ((lv 0 w).map .int)), oI i, oS (tx (flip w)), x14, x15, x16, x17, x18, x19, x20, x21, x22, x23, none, none] = .ok .nx [s, stt L j5, t, oI m, oL (eD m), oI ((f : Int) - 1), oI most, some (.own (T6 w (.int i) (TP m ((i : Int) + 1)))), some (.own (T6 w (.int i) ms)), oI ((r : Int) - 1), oS (tx w), some (.own ((lv 0 w).map .int)), oI i, oS (tx (flip w)), x14, x15, x16, x17, x18, x19, x20, x21, x22, x23, none, none] := p16 n w i wl a4 a5
  have e17 : exS (OL n) z17 [s, stt L j5, t, oI m, oL (eD m), oI ((f : Int) - 1), oI most, some (.own (T6 w (.int i) (TP m ((i : Int) + 1)))), some (.own (T6 w (.int i) ms)), oI ((r : Int) - 1), oS (tx w), some (.own ((lv 0 w).map .int)), oI i, oS (tx (flip w)), x14, x15, x16, x17, x18, x19, x20, x21, x22, x23, none, none] = .ok .nx [s, stt L j5, t, oI m, oL (eD m), oI ((f : Int) - 1), oI most, some (.own (T6 w (.int i) (TP m ((i : Int) + 1)))), some (.own (T6 w (.int i) (TP m ((i : Int) + 1)))), oI ((r : Int) - 1), oS (tx w), some (.own ((lv 0 w).map .int)), oI i, oS (tx (flip w)), x14, x15, x16, x17, x18, x19, x20, x21, x22, x23, none, none] := by
    by_cases h17 : (i : Int) + 1 < ((eD m).length : Int)
    · obtain ⟨Y, hY, hT⟩ := TP_at hm7 ((i : Int) + 1) (by omega) h17
      rw [hT]
      exact p17a n (eD m) _ _ _ Y i h17 hY
    · rw [TP_no hm7 _ (fun z => h17 z.2)]
      exact p17b n (eD m) i _ h17
  have e18 : exS (OL n) z18 [s, stt L j5, t, oI m, oL (eD m), oI ((f : Int) - 1), oI most, some (.own (T6 w (.int i) (TP m ((i : Int) + 1)))), some (.own (T6 w (.int i) (TP m ((i : Int) + 1)))), oI ((r : Int) - 1), oS (tx w), some (.own ((lv 0 w).map .int)), oI i, oS (tx (flip w)), x14, x15, x16, x17, x18, x19, x20, x21, x22, x23, none, none] = .ok .nx [s, stt L j5, t, oI m, oL (eD m), oI ((f : Int) - 1), oI most, oL (T6 w (.int i) (TP m ((i : Int) + 1))), oL (T6 w (.int i) (TP m ((i : Int) + 1))), oI ((r : Int) - 1), oS (tx w), some (.own ((lv 0 w).map .int)), oI i, oS (tx (flip w)), x14, x15, x16, x17, x18, x19, x20, x21, x22, x23, none, none] := p18 n _ 3 1000000 (T6_sh hm7 hw i (by have := e_short hm7; omega) _ (TP_sh hm7 _)) (by omega) (by omega)
  have e19 : exS (OL n) z19 [s, stt L j5, t, oI m, oL (eD m), oI ((f : Int) - 1), oI most, oL (T6 w (.int i) (TP m ((i : Int) + 1))), oL (T6 w (.int i) (TP m ((i : Int) + 1))), oI ((r : Int) - 1), oS (tx w), some (.own ((lv 0 w).map .int)), oI i, oS (tx (flip w)), x14, x15, x16, x17, x18, x19, x20, x21, x22, x23, none, none] = .ok .nx [s, stt L j5, t, oI m, oL (eD m), oI ((f : Int) - 1), oI most, oL (T6 w (.int i) (TP m ((i : Int) + 1))), some (.d ms), oI ((r : Int) - 1), oS (tx w), some (.own ((lv 0 w).map .int)), oI i, oS (tx (flip w)), x14, x15, x16, x17, x18, x19, x20, x21, x22, x23, none, none] := p19 n
  obtain ⟨y14, e20⟩ : ∃ y14 : Option DV, exS (OL n) z20 [s, stt L j5, t, oI m, oL (eD m), oI ((f : Int) - 1), oI most, oL (T6 w (.int i) (TP m ((i : Int) + 1))), some (.d ms), oI ((r : Int) - 1), oS (tx w), some (.own ((lv 0 w).map .int)), oI i, oS (tx (flip w)), x14, x15, x16, x17, x18, x19, x20, x21, x22, x23, none, none] = .ok .nx [s, stt L j5, t, oI m, oL (eD m), oI ((f : Int) - 1), oI most, oL (T6 w (.int i) (TP m ((i : Int) + 1))), some (.d (DF w)), oI ((r : Int) - 1), oS (tx w), some (.own ((lv 0 w).map .int)), oI i, oS (tx (flip w)), y14, x15, x16, x17, x18, x19, x20, x21, x22, x23, none, none] := by
    rcases a8 with h0 | ⟨e0, rr, q1, q2, q3, q4⟩
    · subst h0
      exact ⟨x14, p20a n (some (.d ms))⟩
    · by_cases h0 : w = []
      · subst h0
        exact ⟨x14, p20a n (some (.d ms))⟩
      · have hD : DF w = td (.tuple [.str (tx (cutB w (some 1) (some ((e0 : Int) - 1)))), .str (tx (cutB w (some (e0 : Int)) none))]) := by unfold DF; rw [if_neg h0, q1]
        rw [hD]
        exact ⟨oI e0, p20 n w e0 rr wl h0 q1⟩
  have e21 : exS (OL n) z21 [s, stt L j5, t, oI m, oL (eD m), oI ((f : Int) - 1), oI most, oL (T6 w (.int i) (TP m ((i : Int) + 1))), some (.d (DF w)), oI ((r : Int) - 1), oS (tx w), some (.own ((lv 0 w).map .int)), oI i, oS (tx (flip w)), y14, x15, x16, x17, x18, x19, x20, x21, x22, x23, none, none] = .ok .nx [s, stt L j5, t, oI m, oL (eD m), oI ((f : Int) - 1), oI most, oL (T6 w (.int i) (TP m ((i : Int) + 1))), some (.d (DF w)), oI ((r : Int) - 1), oS (tx w), some (.own ((lv 0 w).map .int)), oI i, oS (tx (flip w)), y14, x15, x16, x17, x18, x19, x20, x21, x22, x23, none, none] := p21 n w wl a1 (DF w) 100000 (DF_sh hm7 hw) (by omega) (by omega) (told19 n hm7 hw _ rfl)
  obtain ⟨j6, v, gj6, vl, e22⟩ := p22 (s := s) (t := t) (x3 := oI m) (x4 := oL (eD m)) (x5 := oI ((f : Int) - 1)) (x6 := oI most) (x7 := oL (T6 w (.int i) (TP m ((i : Int) + 1)))) (x8 := some (.d (DF w))) (x9 := oI ((r : Int) - 1)) (x10 := oS (tx w)) (x11 := some (.own ((lv 0 w).map .int))) (x12 := oI i) (x13 := oS (tx (flip w))) (x14 := y14) (x15 := x15) (x16 := x16) (x17 := x17) (x18 := x18) (x19 := x19) (x20 := x20) (x21 := x21) (x22 := x22) (x23 := x23) n L hL j5 (by omega)
  obtain ⟨y16, e23⟩ := p23 (s := s) (st := stt L j6) (t := t) (x3 := oI m) (x4 := oL (eD m)) (x5 := oI ((f : Int) - 1)) (x6 := oI most) (x7 := oL (T6 w (.int i) (TP m ((i : Int) + 1)))) (x8 := some (.d (DF w))) (x9 := oI ((r : Int) - 1)) (x11 := some (.own ((lv 0 w).map .int))) (x12 := oI i) (x13 := oS (tx (flip w))) (x14 := y14) (x16 := x16) (x17 := x17) (x18 := x18) (x19 := x19) (x20 := x20) (x21 := x21) (x22 := x22) (x23 := x23) n w v wl (by omega)
  obtain ⟨j7, g, gj7, hg1, hg2, e24⟩ := p24 (s := s) (t := t) (x3 := oI m) (x4 := oL (eD m)) (x5 := oI ((f : Int) - 1)) (x6 := oI most) (x7 := oL (T6 w (.int i) (TP m ((i : Int) + 1)))) (x8 := some (.d (DF w))) (x9 := oI ((r : Int) - 1)) (x10 := oS (tx w)) (x11 := some (.own ((lv 0 w).map .int))) (x12 := oI i) (x13 := oS (tx (flip w))) (x14 := y14) (x15 := oS (tx v)) (x16 := y16) (x17 := x17) (x18 := x18) (x19 := x19) (x20 := x20) (x21 := x21) (x22 := x22) (x23 := x23) n L hL j6 (by omega)
  obtain ⟨j8, p, gj8, hp1, hp2, e25⟩ := p25 (s := s) (t := t) (x3 := oI m) (x4 := oL (eD m)) (x5 := oI ((f : Int) - 1)) (x6 := oI most) (x7 := oL (T6 w (.int i) (TP m ((i : Int) + 1)))) (x8 := some (.d (DF w))) (x9 := oI ((r : Int) - 1)) (x10 := oS (tx w)) (x11 := some (.own ((lv 0 w).map .int))) (x12 := oI i) (x13 := oS (tx (flip w))) (x14 := y14) (x15 := oS (tx v)) (x16 := y16) (x18 := x18) (x19 := x19) (x20 := x20) (x21 := x21) (x22 := x22) (x23 := x23) n L hL j7 g (by omega) hg1
  have e26 : exS (OL n) z26 [s, stt L j8, t, oI m, oL (eD m), oI ((f : Int) - 1), oI most, oL (T6 w (.int i) (TP m ((i : Int) + 1))), some (.d (DF w)), oI ((r : Int) - 1), oS (tx w), some (.own ((lv 0 w).map .int)), oI i, oS (tx (flip w)), y14, oS (tx v), y16, oI g, oI p, x19, x20, x21, x22, x23, none, none] = .ok .nx [s, stt L j8, t, oI m, oL (eD m), oI ((f : Int) - 1), oI most, oL (T6 w (.int i) (TP m ((i : Int) + 1))), some (.d (DF w)), oI ((r : Int) - 1), oS (tx w), some (.own ((lv 0 w).map .int)), oI i, oS (tx (flip w)), y14, oS (tx v), y16, oI g, oI p, oI (bal g g), x20, x21, x22, x23, none, none] := p26 n g hg2
  have e27 : exS (OL n) z27 [s, stt L j8, t, oI m, oL (eD m), oI ((f : Int) - 1), oI most, oL (T6 w (.int i) (TP m ((i : Int) + 1))), some (.d (DF w)), oI ((r : Int) - 1), oS (tx w), some (.own ((lv 0 w).map .int)), oI i, oS (tx (flip w)), y14, oS (tx v), y16, oI g, oI p, oI (bal g g), x20, x21, x22, x23, none, none] = .ok .nx [s, stt L j8, t, oI m, oL (eD m), oI ((f : Int) - 1), oI most, oL (T6 w (.int i) (TP m ((i : Int) + 1))), some (.d (DF w)), oI ((r : Int) - 1), oS (tx w), some (.own ((lv 0 w).map .int)), oI i, oS (tx (flip w)), y14, oS (tx v), y16, oI g, oI p, oI (bal g g), some (.own [.int (bal g g), .int (cPk g p), .int (cRt g p)]), x21, x22, x23, none, none] := p27 n g p (bal g g) ⟨hg1, hg2⟩ ⟨hp1, hp2⟩
  have e28 : exS (OL n) z28 [s, stt L j8, t, oI m, oL (eD m), oI ((f : Int) - 1), oI most, oL (T6 w (.int i) (TP m ((i : Int) + 1))), some (.d (DF w)), oI ((r : Int) - 1), oS (tx w), some (.own ((lv 0 w).map .int)), oI i, oS (tx (flip w)), y14, oS (tx v), y16, oI g, oI p, oI (bal g g), some (.own [.int (bal g g), .int (cPk g p), .int (cRt g p)]), x21, x22, x23, none, none] = .ok .nx [s, stt L j8, t, oI m, oL (eD m), oI ((f : Int) - 1), oI most, oL (T6 w (.int i) (TP m ((i : Int) + 1))), some (.d (DF w)), oI ((r : Int) - 1), oS (tx w), some (.own ((lv 0 w).map .int)), oI i, oS (tx (flip w)), y14, oS (tx v), y16, oI g, oI p, oI (bal g g), some (.own [.int (bal g g), .int (cPk g p), .int (cRt g p)]), x21, x22, x23, none, none] := p28 n g p ⟨hg1, hg2⟩
  obtain ⟨wd, j9, hwd, gj9, c29⟩ := c_nextJ mo 23 rfl (n + 5) L j8 60 hL (by omega) (by omega)
  have e29 : exS (OL n) z29 [s, stt L j8, t, oI m, oL (eD m), oI ((f : Int) - 1), oI most, oL (T6 w (.int i) (TP m ((i : Int) + 1))), some (.d (DF w)), oI ((r : Int) - 1), oS (tx w), some (.own ((lv 0 w).map .int)), oI i, oS (tx (flip w)), y14, oS (tx v), y16, oI g, oI p, oI (bal g g), some (.own [.int (bal g g), .int (cPk g p), .int (cRt g p)]), x21, x22, x23, none, none] = .ok .nx [s, stt L j9, t, oI m, oL (eD m), oI ((f : Int) - 1), oI most, oL (T6 w (.int i) (TP m ((i : Int) + 1))), some (.d (DF w)), oI ((r : Int) - 1), oS (tx w), some (.own ((lv 0 w).map .int)), oI i, oS (tx (flip w)), y14, oS (tx v), y16, oI g, oI p, oI (bal g g), some (.own [.int (bal g g), .int (cPk g p), .int (cRt g p)]), oI wd, x22, x23, none, none] := s_next (f := 23) (v := .d (.int wd)) (S2 := St L j9) (x_int _ _ 60) rfl c29 (by simp)
  obtain ⟨hh2, j10, hhd, gj10, c30⟩ := c_nextJ mo 23 rfl (n + 5) L j9 20 hL (by omega) (by omega)
  have e30 : exS (OL n) z30 [s, stt L j9, t, oI m, oL (eD m), oI ((f : Int) - 1), oI most, oL (T6 w (.int i) (TP m ((i : Int) + 1))), some (.d (DF w)), oI ((r : Int) - 1), oS (tx w), some (.own ((lv 0 w).map .int)), oI i, oS (tx (flip w)), y14, oS (tx v), y16, oI g, oI p, oI (bal g g), some (.own [.int (bal g g), .int (cPk g p), .int (cRt g p)]), oI wd, x22, x23, none, none] = .ok .nx [s, stt L j10, t, oI m, oL (eD m), oI ((f : Int) - 1), oI most, oL (T6 w (.int i) (TP m ((i : Int) + 1))), some (.d (DF w)), oI ((r : Int) - 1), oS (tx w), some (.own ((lv 0 w).map .int)), oI i, oS (tx (flip w)), y14, oS (tx v), y16, oI g, oI p, oI (bal g g), some (.own [.int (bal g g), .int (cPk g p), .int (cRt g p)]), oI wd, oI hh2, x23, none, none] := s_next (f := 23) (v := .d (.int hh2)) (S2 := St L j10) (x_int _ _ 20) rfl c30 (by simp)
  have e31 : exS (OL n) z31 [s, stt L j10, t, oI m, oL (eD m), oI ((f : Int) - 1), oI most, oL (T6 w (.int i) (TP m ((i : Int) + 1))), some (.d (DF w)), oI ((r : Int) - 1), oS (tx w), some (.own ((lv 0 w).map .int)), oI i, oS (tx (flip w)), y14, oS (tx v), y16, oI g, oI p, oI (bal g g), some (.own [.int (bal g g), .int (cPk g p), .int (cRt g p)]), oI wd, oI hh2, x23, none, none] = .ok .nx [s, stt L j10, t, oI m, oL (eD m), oI ((f : Int) - 1), oI most, oL (T6 w (.int i) (TP m ((i : Int) + 1))), some (.d (DF w)), oI ((r : Int) - 1), oS (tx w), some (.own ((lv 0 w).map .int)), oI i, oS (tx (flip w)), y14, oS (tx v), y16, oI g, oI p, oI (bal g g), some (.own [.int (bal g g), .int (cPk g p), .int (cRt g p)]), oI wd, oI hh2, x23, none, none] := p31 n wd hh2 (by omega) (by omega)
  obtain ⟨j11, sp, gj11, hs0, hs1, e32⟩ := p32 (s := s) (t := t) (x3 := oI m) (x4 := oL (eD m)) (x5 := oI ((f : Int) - 1)) (x6 := oI most) (x7 := oL (T6 w (.int i) (TP m ((i : Int) + 1)))) (x8 := some (.d (DF w))) (x9 := oI ((r : Int) - 1)) (x10 := oS (tx w)) (x11 := some (.own ((lv 0 w).map .int))) (x12 := oI i) (x13 := oS (tx (flip w))) (x14 := y14) (x15 := oS (tx v)) (x16 := y16) (x17 := oI g) (x18 := oI p) (x19 := oI (bal g g)) (x20 := some (.own [.int (bal g g), .int (cPk g p), .int (cRt g p)])) (x22 := oI hh2) (x23 := x23) n L hL j10 wd (by omega) (by omega)
  have e33 : exS (OL n) z33 [s, stt L j11, t, oI m, oL (eD m), oI ((f : Int) - 1), oI most, oL (T6 w (.int i) (TP m ((i : Int) + 1))), some (.d (DF w)), oI ((r : Int) - 1), oS (tx w), some (.own ((lv 0 w).map .int)), oI i, oS (tx (flip w)), y14, oS (tx v), y16, oI g, oI p, oI (bal g g), some (.own [.int (bal g g), .int (cPk g p), .int (cRt g p)]), oI wd, oI hh2, oI sp, none, none] = .ok .nx [s, stt L j11, t, oI m, oL (eD m), oI ((f : Int) - 1), oI most, some (.d (TP wd sp)), some (.d (DF w)), oI ((r : Int) - 1), oS (tx w), some (.own ((lv 0 w).map .int)), oI i, oS (tx (flip w)), y14, oS (tx v), y16, oI g, oI p, oI (bal g g), some (.own [.int (bal g g), .int (cPk g p), .int (cRt g p)]), oI wd, oI hh2, oI sp, none, none] := p33 n wd sp (by omega)
  have e34 : exS (OL n) z34 [s, stt L j11, t, oI m, oL (eD m), oI ((f : Int) - 1), oI most, some (.d (TP wd sp)), some (.d (DF w)), oI ((r : Int) - 1), oS (tx w), some (.own ((lv 0 w).map .int)), oI i, oS (tx (flip w)), y14, oS (tx v), y16, oI g, oI p, oI (bal g g), some (.own [.int (bal g g), .int (cPk g p), .int (cRt g p)]), oI wd, oI hh2, oI sp, none, none] = .ok .nx [s, stt L j11, t, oI m, oL (eD m), oI ((f : Int) - 1), oI most, some (.d (TP wd sp)), some (.d (DF w)), oI ((r : Int) - 1), oS (tx w), some (.own ((lv 0 w).map .int)), oI i, oS (tx (flip w)), y14, oS (tx v), y16, oI g, oI p, oI (bal g g), some (.own [.int (bal g g), .int (cPk g p), .int (cRt g p)]), oI wd, oI hh2, oI sp, none, none] := p34 n wd sp (by omega) hs0 hs1
  have e35 : exS (OL n) z35 [s, stt L j11, t, oI m, oL (eD m), oI ((f : Int) - 1), oI most, some (.d (TP wd sp)), some (.d (DF w)), oI ((r : Int) - 1), oS (tx w), some (.own ((lv 0 w).map .int)), oI i, oS (tx (flip w)), y14, oS (tx v), y16, oI g, oI p, oI (bal g g), some (.own [.int (bal g g), .int (cPk g p), .int (cRt g p)]), oI wd, oI hh2, oI sp, none, none] = .ok .nx [s, stt L j11, t, oI m, oL (eD m), oI ((f : Int) - 1), oI most, some (.d (TP wd sp)), some (.d (DF w)), oI ((r : Int) - 1), oS (tx w), some (.own ((lv 0 w).map .int)), oI i, oS (tx (flip w)), y14, oS (tx v), y16, oI g, oI p, oI (bal g g), some (.own [.int (bal g g), .int (cPk g p), .int (cRt g p)]), oI wd, oI hh2, oI sp, none, none] := p35 n
  exact ⟨j11, [s, stt L j11, t, oI m, oL (eD m), oI ((f : Int) - 1), oI most, some (.d (TP wd sp)), some (.d (DF w)), oI ((r : Int) - 1), oS (tx w), some (.own ((lv 0 w).map .int)), oI i, oS (tx (flip w)), y14, oS (tx v), y16, oI g, oI p, oI (bal g g), some (.own [.int (bal g g), .int (cPk g p), .int (cRt g p)]), oI wd, oI hh2, oI sp, none, none], by omega, run_cons e0 (run_cons e1 (run_cons e2 (run_cons e3 (run_cons e4 (run_cons e5 (run_cons e6 (run_cons e7 (run_cons e8 (run_cons e9 (run_cons e10 (run_cons e11 (run_cons e12 (run_cons e13 (run_cons e14 (run_cons e15 (run_cons e16 (run_cons e17 (run_cons e18 (run_cons e19 (run_cons e20 (run_cons e21 (run_cons e22 (run_cons e23 (run_cons e24 (run_cons e25 (run_cons e26 (run_cons e27 (run_cons e28 (run_cons e29 (run_cons e30 (run_cons e31 (run_cons e32 (run_cons e33 (run_cons e34 (run_cons e35 rfl))))))))))))))))))))))))))))))))))), _, _, _, _, _, _, _, _, _, _, _, _, _, _, _, _, _, _, _, _, _, some (.str (tx w)), rfl⟩
end
theorem i_rngE3 {O : Orc} {e : DEnv} : evI O (.rng1 (.int 3)) e = .ok (rangeD 0 3) e := i_rng (z := 3) (x_int _ _ 3) (by decide)
theorem answers : Answers mo 7 32 := by
  intro ns hn _
  rw [cf_eq mo 6 32 _ f_law rfl]
  obtain ⟨L, hL0, hL1, es⟩ := c_stream mo 5 22 rfl ns hn
  have hL : Ok L := ⟨hL0, hL1⟩
  generalize hS : some (DV.d (.list (ns.map .int))) = s
  have s1 : exS (OL 0) (.set 1 (.lst (.cons (.call 22 (.cons (.var 0) .nil)) (.cons (.int 0) .nil)))) (s :: List.replicate 25 none) = .ok .nx (s :: stt L 0 :: List.replicate 24 none) := by
    have q : ∀ (X : PyData) (Y : List PyData), mo.cf (0 + 6) 22 [.d X] = .ok (.d (.list Y)) none → exS (OL 0) (.set 1 (.lst (.cons (.call 22 (.cons (.var 0) .nil)) (.cons (.int 0) .nil)))) (some (.d X) :: List.replicate 25 none) = .ok .nx (some (.d X) :: some (.own [.list Y, .int 0]) :: List.replicate 24 none) := fun X Y h => q_set (l_val (xs := [.list Y, .int 0]) (d_val (v := .d (.list Y)) (c_val (xs := [X]) (d_var rfl d_nil) h) (d_val (v := .d (.int 0)) (x_int _ _ 0) d_nil)) (by simp)) (by simp)
    rw [← hS]
    exact q _ _ es
  obtain ⟨e, h1, j, hv⟩ := forL_run (g := .name 2) (body := exSs (OL 0) zB) (fun i e => ∃ j, IsV s L j e ∧ j ≤ 100 * i) (fun e => ∃ j, IsV s L j e) (rangeD 0 3) 0 (s :: stt L 0 :: List.replicate 24 none) ⟨0, ⟨none, none, none, none, none, none, none, none, none, none, none, none, none, none, none, none, none, none, none, none, none, none, rfl⟩, by omega⟩ (fun i x e hx he => by
      obtain ⟨j, hv, hj⟩ := he
      obtain ⟨hi, rfl⟩ := range_get hx
      obtain ⟨t, x3, x4, x5, x6, x7, x8, x9, x11, x12, x13, x14, x15, x16, x17, x18, x19, x20, x21, x22, x23, p10, rfl⟩ := hv
      obtain ⟨j1, e1, g, h, hv1⟩ := turn 0 s L hL j (by omega) [s, stt L j, iD i, x3, x4, x5, x6, x7, x8, x9, p10.map .d, x11, x12, x13, x14, x15, x16, x17, x18, x19, x20, x21, x22, x23, none, none] ⟨iD i, x3, x4, x5, x6, x7, x8, x9, x11, x12, x13, x14, x15, x16, x17, x18, x19, x20, x21, x22, x23, p10, rfl⟩
      exact ⟨[s, stt L j, iD i, x3, x4, x5, x6, x7, x8, x9, p10.map .d, x11, x12, x13, x14, x15, x16, x17, x18, x19, x20, x21, x22, x23, none, none], e1, .nx, rfl, h, .inl ⟨.inl rfl, j1, hv1, by omega⟩⟩) (fun e he => by
      obtain ⟨j, hv, _⟩ := he
      exact ⟨j, hv⟩)
  have s2 : exS (OL 0) (.fors (.name 2) (.rng1 (.int 3)) zB) (s :: stt L 0 :: List.replicate 24 none) = .ok .nx e := by
    rw [x_fors, i_rngE3, R.bind_ok]
    exact h1
  have hb : exSs (OL 0) f_law.body (s :: List.replicate 25 none) = .ok (.ret (.d (.bool true))) e := run_cons s1 (run_cons s2 (run_ret rfl))
  exact (runF_ret (F := f_law) (v := .d (.bool true)) (e0 := s :: List.replicate 25 none) rfl rfl (by rw [← hS]; rfl) hb).trans rfl
end K04
/-! k04: the head. -/
namespace K04
open PySem L2 PyProof.Rows PySem.Spec Wd
abbrev rowOf : PySem.W.OpenRow := PySem.W.OpenLaw.row PySem.Challenge.rw_wayscounted_k04_whole_mountains
abbrev hk : PySem.W.Hook := He.hookX 4 mo.faT (mo.ddsT (top 36)) [] mo.tf mo.exT
def ob (s : PySem.W.SharedT) : He.AlX := He.obsX 4 mo.faT (mo.ddsT (top 36)) [] mo.tf mo.exT (HandSHeadRun.getT s)
theorem ob_eq (s : PySem.W.SharedT) : ob s = hk.obs s.abs := He.obsX_eq (HandSHeadRun.getT_eq s)
def loose : List Str := (["__name__", "WayError", "NotAllowed", "TooLarge", "Missing", "BadForm", "Broken", "choose", "MAX_LONG", "MAX_SHOWN", "check_half", "check_text", "levels", "is_mountain", "check_mountain", "count", "ends", "all_mountains", "place_of", "mountain_at", "next_mountain", "peaks", "height", "returns"] : List Str) ++ (["area", "count_peaks", "count_returns", "count_height", "first_part", "turned", "_law_same", "_law_stream", "_law_next", "_law_told", "_law_levels", "_law_good", "_law_all", "_law_choose", "_law_narrow", "_law_returns", "_law_peaks", "_law_refuses"] : List Str)
theorem run (w : World) : HandSHeadRun.RunEq rowOf (PySem.W.view rowOf.prog [45]) hk ob 90000 loose w := by
  intro os
  kernel_rfl
end K04
open PySem PySem.W PySem.Calls PyProof.Rows
theorem PySem.Challenge.cw_wayscounted_k04_whole_mountains_holds : PySem.Challenge.rw_wayscounted_k04_whole_mountains.Holds := by
  w_on; o_law
  refine HandSHeadRun.head_any (r := K04.rowOf) (q := view K04.rowOf.prog [45]) (H := K04.hk) (ob := K04.ob) (M := 90000) (loose := K04.loose) (d := HandSHeadRun.topDef K04.rowOf.prog 45) (kwd := []) K04.ob_eq
    (by kernel_rfl) (fun s => by kernel_rfl) K04.run (by kernel_rfl) (by kernel_rfl) (by kernel_rfl) (by rfl) (by first | assumption | decide +kernel) (by decide +kernel) ⟨rfl, rfl, rfl, rfl, rfl, by decide +kernel⟩ ?hw ?hc
  case hw => w_witness2
  case hc => exact Wd.law_walkT (l := PySem.Challenge.rw_wayscounted_k04_whole_mountains) (n := 7) (i := 32) (m := K04.mo) (dl := K04.d_law) (st := K04.top 36) K04.mo_okT rfl (by kernel_rfl) ⟨rfl, by decide, by decide⟩ K04.mo_ok rfl (by kernel_rfl) rfl K04.answers
